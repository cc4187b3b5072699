import PyProof.Rows.All
import Wide.All
import OpenK.AllK
import Wide.FinOn
import PyProof.EqAt
import PyProof.EqKinds
import PyProof.TupleCall
import KE.KStateDown
import KE.OsHead
import KE.DataMinMax
import Open.SpecLaws
import KE.OsGo
import HandS.ForSpec
import HandS.TryMany
import HandS.Comp
import HandS.Iter
import HandS.Text
import HandS.More
import HandS.Zip
import HandS.Defaults
import HandS.CallSlots
import HandS.ExcInit
import HandS.ExcInitHot
import HandS.ExcField
import HandS.Replace
import HandS.ReplaceDef
import HandS.ReplaceList
import HandS.HeadHook4
import HandS.Head4
import PySem.Challenge.RW_linepatches_s01_answers
import PyVasedc
import VasedcSpec
import HandS.Walk
import HandS.SortKw
import KE.KIntText
import PyProof.StrReplace2
import HandS.SuiteRaise
import HandS.RaiseFrom
import HandS.Head0
import HandS.Head1
import HandS.Head2
import HandS.Head3
set_option Elab.async false
set_option linter.all false
set_option maxRecDepth 100000
section
set_option maxHeartbeats 4000000
/-! ### the text, facts of names, defs with their promises -/
namespace Lp
open PySem PySem.Spec PyProof.Rows L2
open PySem.W (Frag)

/-- the i-th statement of the top -/
def topS (i : Nat) : Stmt := PySem.Challenge.pw_linepatches_s01_answers.main.body.getD i (.Pass ⟨0, 0, 0, 0⟩)

/-- a def of the text as it stands behind the top -/
abbrev FnP (K : Frag) (x qual : Str) (st : Stmt) (f : Addr) (fd : FuncData) : Prop := FunD K x qual (defArgs st) (defBody st) (defScope st) [] [] f fd

section
variable (P : Program) (w : World) (K : Frag) (mg : Str → Option Value) (base : Heap)
/-- a def that a name of the module stands for, and its promise -/
structure Dn (CX : CXT) (k : Nat) (x : Str) (ps : List Str) (sp : Sp) : Prop where
  ex : ∃ f fd, mg x = some (.ref f) ∧ PySem.W.keepIn K (.ref f) = true ∧ Binds K fd ps [] ∧ FnOk P w K mg base CX k f fd ps sp
/-- a method of the class at C -/
structure Dm (CX : CXT) (k : Nat) (C : Addr) (m : Str) (ps : List Str) (sp : Sp) : Prop where
  ex : ∃ f fd, Meth K C m f ∧ Binds K fd ps [] ∧ FnOk P w K mg base CX k f fd ps sp
/-- a class that a name of the module stands for, made by its __init__ -/
structure Dc (k : Nat) (x : Str) (C : Addr) (ps : List Str) (sp : Sp) : Prop where
  ex : ∃ f fd, Mk K C f ∧ mg x = some (.ref C) ∧ Binds K fd ps [] ∧ FnOk P w K mg base CX0 k f fd ps sp
end

section
variable {X : Cx} {CX : CXT} {k : Nat} {C : Addr} {ps : List Str} {sp : Sp} {E : XK} {x m : Str} {p pos apos : Pos} {e o : Expr} {es : List Expr} {ta : TE} {t : TA}
def tF (sp : Sp) (E : XK) (t : TA) : TE := fun σ H Q => t σ H fun vs H1 => sp vs H1 Q E
def tM (C : Addr) (m : Str) (sp : Sp) (E : XK) (ta : TE) (t : TA) : TE := fun σ H Q => ta σ H fun x H1 => ∃ a dx fs, x = .ref a ∧ H1 a = some (.ins C dx fs) ∧ fs.lookup m = none ∧ t σ H1 fun vs H2 => sp (x :: vs) H2 Q E
def tC' (C : Addr) (sp : Sp) (t : TA) : TE := fun σ H Q => t σ H fun vs H1 => ∀ x dx, H1 x = none → H1 dx = none → dx ≠ x →
  sp (.ref x :: vs) (upd (upd H1 dx (.own x)) x (.ins C dx [])) (fun v H2 => v = .non ∧ Q (.ref x) H2) E0
theorem tF_of : tF sp E t = tCall sp [] E t := by
  funext σ H Q
  unfold tF tCall
  simp only [List.append_nil]
theorem tM_of : tM C m sp E ta t = tMeth C m sp [] E ta t := by
  funext σ H Q
  unfold tM tMeth
  simp only [List.append_nil]
theorem tC_of : tC' C sp t = tMake C sp [] E0 t := by
  funext σ H Q
  unfold tC' tMake
  simp only [List.append_nil]
/-- f(e, ..) -/
theorem pe_f (D : Dn X.prog X.w X.K X.mg X.base CX k x ps sp) (hr : Room k X.A) (hx : Passes CX X E) (ha : PA X (e :: es) t) (hg : Gl X x := by rfl) (hdb : (x == ("__debug__" : Str)) = false := by decide)
    (he : starEach (e :: es) X.env = (false, eval e X.env) :: starEach es X.env := by rfl) (hpl : (backTo pos (starEach es X.env)).any (·.1) = false := by rfl) : PE X (.Call (.Name x p) (e :: es) [] pos) (tF sp E t) := by
  obtain ⟨f, fd, h1, h2, h3, h4⟩ := D.ex
  rw [tF_of]
  exact pe_call h4 hr hg h1 h2 h3 .nil hx ha hdb he hpl
/-- o.m(e, ..) -/
theorem pe_m {pl : Sem Bool} (D : Dm X.prog X.w X.K X.mg X.base CX k C m ps sp) (c : Cls X.K C) (hr : Room k X.A) (hx : Passes CX X E) (ho : PE X o ta) (ha : PA X (e :: es) t)
    (hst : starEach (e :: es) X.env = (false, eval e X.env) :: starEach es X.env := by rfl) (hpl : (backTo pos (starEach es X.env)).any (·.1) = false := by rfl)
    (ht : eval (.Call (.Attribute o m apos) (e :: es) [] pos) X.env = (do
      let ov ← eval o X.env
      standAt apos.atName
      let (f, first) ← holding [ov] (getMethod ov m pl)
      callWith pos f first (backTo pos (starEach (e :: es) X.env)) (backToKw pos (keywordEach [] X.env))) := by rfl) :
    PE X (.Call (.Attribute o m apos) (e :: es) [] pos) (tM C m sp E ta t) := by
  obtain ⟨f, fd, h1, h3, h4⟩ := D.ex
  rw [tM_of]
  exact pe_meth ho c h1 h4 hr h3 .nil hx ha hst hpl ht
/-- o.m() -/
theorem pe_m0 {pl : Sem Bool} (D : Dm X.prog X.w X.K X.mg X.base CX k C m ps sp) (c : Cls X.K C) (hr : Room k X.A) (hx : Passes CX X E) (ho : PE X o ta)
    (ht : eval (.Call (.Attribute o m apos) [] [] pos) X.env = (do
      let ov ← eval o X.env
      standAt apos.atName
      let (f, first) ← holding [ov] (getMethod ov m pl)
      callWith pos f first (backTo pos (starEach [] X.env)) (backToKw pos (keywordEach [] X.env))) := by rfl) :
    PE X (.Call (.Attribute o m apos) [] [] pos) (tM C m sp E ta tNil) := by
  obtain ⟨f, fd, h1, h3, h4⟩ := D.ex
  rw [tM_of]
  exact pe_meth0 ho c h1 h4 hr h3 .nil hx ht
/-- C(e, ..) -/
theorem pe_c (D : Dc X.prog X.w X.K X.mg X.base k x C ps sp) (hr : Room (k + 1) X.A) (ha : PA X (e :: es) t) (hg : Gl X x := by rfl) (hdb : (x == ("__debug__" : Str)) = false := by decide)
    (he : starEach (e :: es) X.env = (false, eval e X.env) :: starEach es X.env := by rfl) (hpl : (backTo pos (starEach es X.env)).any (·.1) = false := by rfl) : PE X (.Call (.Name x p) (e :: es) [] pos) (tC' C sp t) := by
  obtain ⟨f, fd, h1, h2, h3, h4⟩ := D.ex
  rw [tC_of]
  exact pe_make h1 h4 hr hg h2 h3 .nil pass0 ha hdb he hpl
/-- C() -/
theorem pe_c0 (D : Dc X.prog X.w X.K X.mg X.base k x C ps sp) (hr : Room (k + 1) X.A) (hg : Gl X x := by rfl) (hdb : (x == ("__debug__" : Str)) = false := by decide) : PE X (.Call (.Name x p) [] [] pos) (tC' C sp tNil) := by
  obtain ⟨f, fd, h1, h2, h3, h4⟩ := D.ex
  rw [tC_of]
  exact pe_make0 h1 h4 hr hg h2 h3 .nil pass0 hdb
/-- a module's int, text, object -/
theorem pe_gint {i : Int} (h : ∃ t, X.mg x = some (.int i t)) (hg : Gl X x := by rfl) (hd : (x == ("__debug__" : Str)) = false := by decide) : PE X (.Name x pos) (tC (.int i)) := by
  obtain ⟨t, h⟩ := h
  exact pe_glob hg h ⟨t, rfl⟩ hd
theorem pe_gstr {z : Str} (h : ∃ t, X.mg x = some (.str z t)) (hg : Gl X x := by rfl) (hd : (x == ("__debug__" : Str)) = false := by decide) : PE X (.Name x pos) (tC (.str z)) := by
  obtain ⟨t, h⟩ := h
  exact pe_glob hg h ⟨t, rfl⟩ hd
theorem pe_gref {a : Addr} (h : X.mg x = some (.ref a)) (hg : Gl X x := by rfl) (hd : (x == ("__debug__" : Str)) = false := by decide) : PE X (.Name x pos) (tC (.ref a)) := pe_glob hg h rfl hd
/-- an attribute as a target -/
def gAtt (K : Frag) (to : TE) (f : Str) : TG := fun v σ H Q => to σ H fun x H1 => ∃ a C dx fs, x = .ref a ∧ H1 a = some (.ins C dx fs) ∧ Cls K C ∧ NoAttr K C f ∧ fs.length < 1000 ∧ Q σ (upd H1 a (.ins C dx (putF f v fs)))
theorem pg_att {f : Str} (ho : PE X o ta) : PG X (.Attribute o f pos) (gAtt X.K ta f) := by
  refine ⟨fun pins s σ H v u Q I r h => ?_⟩
  rw [PySem.assign_Attribute]
  refine wpAny_bind (wpAny_holding (thn (ho.run pins s σ H _ I h) fun ov s1 hh => ?_))
  obtain ⟨y, H1, I1, r1, a, C, dx, fs, ex, ea, c, n, l, q⟩ := hh
  subst ex
  obtain rfl : ov = Value.ref a := r1
  exact wpAny_bind (wpAny_standAt (wpAny_bind (wpAny_holding (setattr_ok I1 ea c n l r fun s2 I2 => wpAny_release ⟨σ, _, I2, q⟩))))
end

/-- within a comprehension's block the written part is said by its name -/
theorem pg_tupK {X : Cx} (K : Frag) (n : Nat) {es : List Expr} {j : Nat} {pos : Pos} {t : TGs} (hK : X.K = K) (hc : X.calm = true) (h : PGs X es t)
    (hn : (assignEach es X.env).length = n := by rfl) (hst : (assignEach es X.env).findIdx? (·.1) = none := by rfl) : PG X (.Tuple es j pos) (gTup K n t) := by
  subst hK
  exact pg_tup hc h hn hst
theorem ix_listK {X : Cx} (K : Frag) (hK : X.K = K) : IxR X (rIxL K) := by
  subst hK
  exact ix_list

theorem call_lenK {X : Cx} (K : Frag) (hK : X.K = K) : CallR X (.builtin "len") (fun xs H Q => ∃ x n, xs = [x] ∧ LenV K x H n ∧ Q (.int n) H) := by
  subst hK
  exact call_len

/-! ### THE RULE for a def: its body as a term of rules, and the term's reading -/
section
variable {P : Program} {w : World} {K : Frag} {mg : Str → Option Value} {base : Heap} {x qual : Str} {st : Stmt} {f : Addr} {fd : FuncData} {N ps : List Str} {k : Nat} {sp : Sp}
theorem ok0 (F : FnP K x qual st f fd) (S : FnScope N ps (defScope st)) (len : ∀ vs H Q E, sp vs H Q E → vs.length = ps.length)
    (hbody : ∀ (cdv : Value) (A : Around) (outer : List Env) (s : Shared) (H : Hp) (vs : List V) (Q : VK) (E : XK), Room k (A.deeper (envOfC qual (defScope st) s.heap.objs.size f cdv)) → sp vs H Q E →
      ∃ t, PSs (cxOf CX0 P w K mg base N qual (defScope st) f cdv A outer s H E).nox (defBody st) t ∧ t { nx := fun _ H' => Q .non H', rt := Q } (start N vs) H) : FnOk P w K mg base CX0 (k + 1) f fd ps sp :=
  F.ok S len fun cdv A outer s H vs Q E hr h => by
    obtain ⟨t, h1, h2⟩ := hbody cdv A outer s H vs Q E hr h
    exact ⟨t, h1.nox, h2⟩
theorem okX (F : FnP K x qual st f fd) (S : FnScope N ps (defScope st)) (len : ∀ vs H Q E, sp vs H Q E → vs.length = ps.length)
    (hbody : ∀ (cdv : Value) (A : Around) (outer : List Env) (s : Shared) (H : Hp) (vs : List V) (Q : VK) (E : XK), Room k (A.deeper (envOfC qual (defScope st) s.heap.objs.size f cdv)) → sp vs H Q E →
      ∃ t, PSs (cxOf (L2.CX P w) P w K mg base N qual (defScope st) f cdv A outer s H E) (defBody st) t ∧ t { nx := fun _ H' => Q .non H', rt := Q } (start N vs) H) : FnOk P w K mg base (L2.CX P w) (k + 1) f fd ps sp := F.ok S len hbody
theorem okN (F : FnP K x qual st f fd) (S : FnScope N ps (defScope st)) (len : ∀ vs H Q E, sp vs H Q E → vs.length = ps.length)
    (hbody : ∀ (cdv : Value) (A : Around) (outer : List Env) (s : Shared) (H : Hp) (vs : List V) (Q : VK) (E : XK), Room k (A.deeper (envOfC qual (defScope st) s.heap.objs.size f cdv)) → sp vs H Q E →
      ∃ t, PSs (cxOf (L2N.CX P w) P w K mg base N qual (defScope st) f cdv A outer s H E) (defBody st) t ∧ t { nx := fun _ H' => Q .non H', rt := Q } (start N vs) H) : FnOk P w K mg base (L2N.CX P w) (k + 1) f fd ps sp := F.ok S len hbody
end

/-! ### heaps -/
/-- all that was tracked but a stands as it did -/
def Sbut (a : Addr) (H H' : Hp) : Prop := ∀ b o, H b = some o → b ≠ a → H' b = some o
theorem Sbut.of {a : Addr} {H H' : Hp} (s : Same H H') : Sbut a H H' := fun b o h _ => s b o h
theorem Sbut.refl (a : Addr) (H : Hp) : Sbut a H H := fun _ _ h _ => h
theorem Sbut.trans {a : Addr} {H H1 H2 : Hp} (h1 : Sbut a H H1) (h2 : Sbut a H1 H2) : Sbut a H H2 := fun b o h n => h2 b o (h1 b o h n) n
theorem Sbut.upd {a : Addr} {H H' : Hp} {o : HO} (s : Sbut a H H') : Sbut a H (upd H' a o) := fun b u h n => by
  rw [upd_ne n]
  exact s b u h n
theorem _root_.L2.Same.new {H H' : Hp} {p : Addr} {o : HO} (s : Same H H') (h : H' p = none) : Same H (upd H' p o) := fun a u e => by
  rw [upd_ne (ne_of_none (s a u e) h)]
  exact s a u e
theorem _root_.L2.Same.mut {H H' : Hp} {p : Addr} {o : HO} (s : Same H H') (h : H p = none) : Same H (upd H' p o) := fun a u e => by
  rw [upd_ne (ne_of_none e h)]
  exact s a u e
theorem _root_.L2.Same.lst {K : Frag} {H H' : Hp} {a : Addr} {xs : List V} (s : Same H H') (h : SqL K H a xs) : SqL K H' a xs := s.seq h
end Lp
end
section
set_option maxHeartbeats 4000000
/-! ### what the top has written -/
namespace Lp
open PySem PySem.Spec PyProof.Rows L2
open PySem.W (Frag)
/-- the object that a module's name stands for -/
abbrev cA (K : Frag) (x : Str) : Addr := He.ga K x
structure Txt (K : Frag) (mg : Str → Option Value) : Prop where
  g_KEPT : ∃ t, mg "KEPT" = some (.int (0) t)
  g_OUT : ∃ t, mg "OUT" = some (.int (1) t)
  g_IN : ∃ t, mg "IN" = some (.int (2) t)
  g_LETTERS : ∃ t, mg "LETTERS" = some (.str "abcdefghijklmnopqrstuvwxyz" t)
  g_FIRST_LETTER : ∃ t, mg "FIRST_LETTER" = some (.int (97) t)
  g_LAST_LETTER : ∃ t, mg "LAST_LETTER" = some (.int (122) t)
  g_FIRST_DIGIT : ∃ t, mg "FIRST_DIGIT" = some (.int (48) t)
  g_LAST_DIGIT : ∃ t, mg "LAST_DIGIT" = some (.int (57) t)
  g_SEMICOLON : ∃ t, mg "SEMICOLON" = some (.int (59) t)
  g_BLANKS : mg "BLANKS" = some (.ref (cA K "BLANKS"))
  tt_BLANKS : ∀ H : Hp, SqT K H (cA K "BLANKS") [.int 32, .int 9, .int 10]
  g_REMARK : ∃ t, mg "REMARK" = some (.int (35) t)
  g_LINE_END : ∃ t, mg "LINE_END" = some (.int (10) t)
  g_MOST_BYTES : ∃ t, mg "MOST_BYTES" = some (.int (4096) t)
  g_MOST_LETTERS_tokens : ∃ t, mg "MOST_LETTERS_tokens" = some (.int (8) t)
  g_MOST_NUMBER : ∃ t, mg "MOST_NUMBER" = some (.int (1000000000) t)
  g_MOST_DIGITS : ∃ t, mg "MOST_DIGITS" = some (.int (10) t)
  g_WORD : ∃ t, mg "WORD" = some (.int (0) t)
  g_NUMBER : ∃ t, mg "NUMBER" = some (.int (1) t)
  g_SIGN : ∃ t, mg "SIGN" = some (.int (2) t)
  g_END : ∃ t, mg "END" = some (.int (3) t)
  g_TOO_LONG : ∃ t, mg "TOO_LONG" = some (.int (1) t)
  g_NO_TOKEN : ∃ t, mg "NO_TOKEN" = some (.int (2) t)
  g_OWN_WORDS : mg "OWN_WORDS" = some (.ref (cA K "OWN_WORDS"))
  tt_OWN_WORDS : ∀ H : Hp, SqT K H (cA K "OWN_WORDS") [.str "if", .str "all", .str "line", .str "from", .str "to", .str "last", .str "has", .str "is", .str "not", .str "delete", .str "before", .str "after", .str "change", .str "swap", .str "first", .str "keep", .str "bring", .str "trade", .str "skip", .str "stop", .str "none"]
  g_ADDRESSES : mg "ADDRESSES" = some (.ref (cA K "ADDRESSES"))
  tt_ADDRESSES : ∀ H : Hp, SqT K H (cA K "ADDRESSES") [.str "all", .str "line", .str "from", .str "last", .str "has", .str "is"]
  g_BARE : mg "BARE" = some (.ref (cA K "BARE"))
  tt_BARE : ∀ H : Hp, SqT K H (cA K "BARE") [.str "delete", .str "keep", .str "bring", .str "trade", .str "stop"]
  g_WITH_LETTERS : mg "WITH_LETTERS" = some (.ref (cA K "WITH_LETTERS"))
  tt_WITH_LETTERS : ∀ H : Hp, SqT K H (cA K "WITH_LETTERS") [.str "before", .str "after", .str "change"]
  g_WITH_TWO : mg "WITH_TWO" = some (.ref (cA K "WITH_TWO"))
  tt_WITH_TWO : ∀ H : Hp, SqT K H (cA K "WITH_TWO") [.str "swap", .str "first"]
  g_CANNOT_STAND : ∃ t, mg "CANNOT_STAND" = some (.int (3) t)
  g_TOO_MANY : ∃ t, mg "TOO_MANY" = some (.int (4) t)
  g_OUT_OF_BOUNDS : ∃ t, mg "OUT_OF_BOUNDS" = some (.int (7) t)
  g_MOST_COMMANDS : ∃ t, mg "MOST_COMMANDS" = some (.int (16) t)
  g_MOST_NOTS : ∃ t, mg "MOST_NOTS" = some (.int (3) t)
  g_MOST_LINE : ∃ t, mg "MOST_LINE" = some (.int (99) t)
  g_MOST_SKIP : ∃ t, mg "MOST_SKIP" = some (.int (9) t)
  g_MOST_LETTERS_numbered : ∃ t, mg "MOST_LETTERS_numbered" = some (.int (8) t)
  g_MOST_LETTERS_runs : ∃ t, mg "MOST_LETTERS_runs" = some (.int (16) t)
  g_MOST_RESULT : ∃ t, mg "MOST_RESULT" = some (.int (60) t)
  g_NO_SCRIPT : ∃ t, mg "NO_SCRIPT" = some (.int (-1) t)
  g_BAD_TEXT : ∃ t, mg "BAD_TEXT" = some (.int (-4) t)
  g_NO_NUMBERED : ∃ t, mg "NO_NUMBERED" = some (.int (-6) t)
  g_TOO_MUCH : ∃ t, mg "TOO_MUCH" = some (.int (-7) t)
  g_MOST_LETTERS_patches : ∃ t, mg "MOST_LETTERS_patches" = some (.int (16) t)
  g_MOST_LINES : ∃ t, mg "MOST_LINES" = some (.int (24) t)
  g_ROWS : mg "ROWS" = some (.ref (cA K "ROWS"))
  tt_ROWS : ∀ H : Hp, SqT K H (cA K "ROWS") [.int 1, .int 2, .int 1, .int 2, .int 1, .int 3, .int 3, .int 2]
  g_LOAD : ∃ t, mg "LOAD" = some (.int (0) t)
  f_len : mg "len" = none
  f_range : mg "range" = none
  f_max : mg "max" = none
  f_min : mg "min" = none
  f_enumerate : mg "enumerate" = none
  f_zip : mg "zip" = none
  f_ord : mg "ord" = none
  f_all : mg "all" = none
  f_int : mg "int" = none
  f_str : mg "str" = none
  f_ValueError : mg "ValueError" = none
  cl_Change : Cls K (cA K "Change")
  na_Change_place : NoAttr K (cA K "Change") "place"
  na_Change_before : NoAttr K (cA K "Change") "before"
  na_Change_outs : NoAttr K (cA K "Change") "outs"
  na_Change_ins : NoAttr K (cA K "Change") "ins"
  na_Change_behind : NoAttr K (cA K "Change") "behind"
  cl_Token : Cls K (cA K "Token")
  na_Token_kind : NoAttr K (cA K "Token") "kind"
  na_Token_text : NoAttr K (cA K "Token") "text"
  na_Token_number : NoAttr K (cA K "Token") "number"
  na_Token_place : NoAttr K (cA K "Token") "place"
  cl_Address : Cls K (cA K "Address")
  na_Address_word : NoAttr K (cA K "Address") "word"
  na_Address_letters : NoAttr K (cA K "Address") "letters"
  na_Address_low : NoAttr K (cA K "Address") "low"
  na_Address_high : NoAttr K (cA K "Address") "high"
  na_Address_nots : NoAttr K (cA K "Address") "nots"
  cl_Command : Cls K (cA K "Command")
  na_Command_address : NoAttr K (cA K "Command") "address"
  na_Command_word : NoAttr K (cA K "Command") "word"
  na_Command_letters : NoAttr K (cA K "Command") "letters"
  na_Command_number : NoAttr K (cA K "Command") "number"
  cl_Reader : Cls K (cA K "Reader")
  na_Reader_tokens : NoAttr K (cA K "Reader") "tokens"
  na_Reader_at : NoAttr K (cA K "Reader") "at"
  cl_Work : Cls K (cA K "Work")
  na_Work_letters : NoAttr K (cA K "Work") "letters"
  na_Work_number : NoAttr K (cA K "Work") "number"
  na_Work_is_last : NoAttr K (cA K "Work") "is_last"
  na_Work_put_ahead : NoAttr K (cA K "Work") "put_ahead"
  na_Work_put_behind : NoAttr K (cA K "Work") "put_behind"
  na_Work_is_deleted : NoAttr K (cA K "Work") "is_deleted"
  na_Work_left_out : NoAttr K (cA K "Work") "left_out"
  na_Work_is_done : NoAttr K (cA K "Work") "is_done"
  cl_Run : Cls K (cA K "Run")
  na_Run_commands : NoAttr K (cA K "Run") "commands"
  na_Run_held : NoAttr K (cA K "Run") "held"
  na_Run_came : NoAttr K (cA K "Run") "came"
  cl_Desk : Cls K (cA K "Desk")
  na_Desk_commands : NoAttr K (cA K "Desk") "commands"
  g_Fault : mg "Fault" = some (.ref (cA K "Fault"))
  ox_Fault : OexC K (cA K "Fault")
  xf_Fault : XfC K (cA K "Fault")
  na_Fault_code : PySem.W.findIn K (.ref (cA K "Fault")) "code" = some none
  na_Fault_place : PySem.W.findIn K (.ref (cA K "Fault")) "place" = some none
  te_Fault : PySem.W.exmOne K (.ref (cA K "Fault")) (.ref (cA K "Fault")) = some true
  g_Refused : mg "Refused" = some (.ref (cA K "Refused"))
  ox_Refused : OexC K (cA K "Refused")
  xf_Refused : XfC K (cA K "Refused")
  na_Refused_number : PySem.W.findIn K (.ref (cA K "Refused")) "number" = some none
  te_Refused : PySem.W.exmOne K (.ref (cA K "Refused")) (.ref (cA K "Refused")) = some true
  g_TooMuch : mg "TooMuch" = some (.ref (cA K "TooMuch"))
  xc_TooMuch : PySem.W.excIn K (cA K "TooMuch") He.veBase "ValueError.__new__" = true ∧ PySem.W.keepIn K (.ref (cA K "TooMuch")) = true ∧ PySem.W.subIn K (.ref (cA K "TooMuch")) (.type "BaseException") = some true ∧ PySem.W.typeIn K (.ref (cA K "TooMuch")) = some (.type "type")
  te_TooMuch : PySem.W.exmOne K (.ref (cA K "TooMuch")) (.ref (cA K "TooMuch")) = some true
  vV : PySem.W.findCls K (.type "ValueError") (.type "type") "__init__" = some (.val (.builtin "ValueError.__init__"))

/-- Change's attributes, in the order of its __init__ -/
def F_Change (v0 v1 v2 v3 v4 : V) : List (Str × V) := [("place", v0), ("before", v1), ("outs", v2), ("ins", v3), ("behind", v4)]
theorem lk_Change_place {v0 v1 v2 v3 v4 : V} : (F_Change v0 v1 v2 v3 v4).lookup ("place" : Str) = some v0 := by kernel_rfl
theorem pt_Change_place {v0 v1 v2 v3 v4 y : V} : putF "place" y (F_Change v0 v1 v2 v3 v4) = F_Change y v1 v2 v3 v4 := by kernel_rfl
theorem lk_Change_before {v0 v1 v2 v3 v4 : V} : (F_Change v0 v1 v2 v3 v4).lookup ("before" : Str) = some v1 := by kernel_rfl
theorem pt_Change_before {v0 v1 v2 v3 v4 y : V} : putF "before" y (F_Change v0 v1 v2 v3 v4) = F_Change v0 y v2 v3 v4 := by kernel_rfl
theorem lk_Change_outs {v0 v1 v2 v3 v4 : V} : (F_Change v0 v1 v2 v3 v4).lookup ("outs" : Str) = some v2 := by kernel_rfl
theorem pt_Change_outs {v0 v1 v2 v3 v4 y : V} : putF "outs" y (F_Change v0 v1 v2 v3 v4) = F_Change v0 v1 y v3 v4 := by kernel_rfl
theorem lk_Change_ins {v0 v1 v2 v3 v4 : V} : (F_Change v0 v1 v2 v3 v4).lookup ("ins" : Str) = some v3 := by kernel_rfl
theorem pt_Change_ins {v0 v1 v2 v3 v4 y : V} : putF "ins" y (F_Change v0 v1 v2 v3 v4) = F_Change v0 v1 v2 y v4 := by kernel_rfl
theorem lk_Change_behind {v0 v1 v2 v3 v4 : V} : (F_Change v0 v1 v2 v3 v4).lookup ("behind" : Str) = some v4 := by kernel_rfl
theorem pt_Change_behind {v0 v1 v2 v3 v4 y : V} : putF "behind" y (F_Change v0 v1 v2 v3 v4) = F_Change v0 v1 v2 v3 y := by kernel_rfl
theorem nl_Change_stands_at {v0 v1 v2 v3 v4 : V} : (F_Change v0 v1 v2 v3 v4).lookup ("stands_at" : Str) = none := by kernel_rfl
theorem new_Change {v0 v1 v2 v3 v4 : V} : putF "behind" v4 (putF "ins" v3 (putF "outs" v2 (putF "before" v1 (putF "place" v0 ([]))))) = F_Change v0 v1 v2 v3 v4 := by kernel_rfl
theorem len_Change {v0 v1 v2 v3 v4 : V} : (F_Change v0 v1 v2 v3 v4).length < 1000 := (by decide : 5 < 1000)
/-- Token's attributes, in the order of its __init__ -/
def F_Token (v0 v1 v2 v3 : V) : List (Str × V) := [("kind", v0), ("text", v1), ("number", v2), ("place", v3)]
theorem lk_Token_kind {v0 v1 v2 v3 : V} : (F_Token v0 v1 v2 v3).lookup ("kind" : Str) = some v0 := by kernel_rfl
theorem pt_Token_kind {v0 v1 v2 v3 y : V} : putF "kind" y (F_Token v0 v1 v2 v3) = F_Token y v1 v2 v3 := by kernel_rfl
theorem lk_Token_text {v0 v1 v2 v3 : V} : (F_Token v0 v1 v2 v3).lookup ("text" : Str) = some v1 := by kernel_rfl
theorem pt_Token_text {v0 v1 v2 v3 y : V} : putF "text" y (F_Token v0 v1 v2 v3) = F_Token v0 y v2 v3 := by kernel_rfl
theorem lk_Token_number {v0 v1 v2 v3 : V} : (F_Token v0 v1 v2 v3).lookup ("number" : Str) = some v2 := by kernel_rfl
theorem pt_Token_number {v0 v1 v2 v3 y : V} : putF "number" y (F_Token v0 v1 v2 v3) = F_Token v0 v1 y v3 := by kernel_rfl
theorem lk_Token_place {v0 v1 v2 v3 : V} : (F_Token v0 v1 v2 v3).lookup ("place" : Str) = some v3 := by kernel_rfl
theorem pt_Token_place {v0 v1 v2 v3 y : V} : putF "place" y (F_Token v0 v1 v2 v3) = F_Token v0 v1 v2 y := by kernel_rfl
theorem new_Token {v0 v1 v2 v3 : V} : putF "place" v3 (putF "number" v2 (putF "text" v1 (putF "kind" v0 ([])))) = F_Token v0 v1 v2 v3 := by kernel_rfl
theorem len_Token {v0 v1 v2 v3 : V} : (F_Token v0 v1 v2 v3).length < 1000 := (by decide : 4 < 1000)
/-- Address's attributes, in the order of its __init__ -/
def F_Address (v0 v1 v2 v3 v4 : V) : List (Str × V) := [("word", v0), ("letters", v1), ("low", v2), ("high", v3), ("nots", v4)]
theorem lk_Address_word {v0 v1 v2 v3 v4 : V} : (F_Address v0 v1 v2 v3 v4).lookup ("word" : Str) = some v0 := by kernel_rfl
theorem pt_Address_word {v0 v1 v2 v3 v4 y : V} : putF "word" y (F_Address v0 v1 v2 v3 v4) = F_Address y v1 v2 v3 v4 := by kernel_rfl
theorem lk_Address_letters {v0 v1 v2 v3 v4 : V} : (F_Address v0 v1 v2 v3 v4).lookup ("letters" : Str) = some v1 := by kernel_rfl
theorem pt_Address_letters {v0 v1 v2 v3 v4 y : V} : putF "letters" y (F_Address v0 v1 v2 v3 v4) = F_Address v0 y v2 v3 v4 := by kernel_rfl
theorem lk_Address_low {v0 v1 v2 v3 v4 : V} : (F_Address v0 v1 v2 v3 v4).lookup ("low" : Str) = some v2 := by kernel_rfl
theorem pt_Address_low {v0 v1 v2 v3 v4 y : V} : putF "low" y (F_Address v0 v1 v2 v3 v4) = F_Address v0 v1 y v3 v4 := by kernel_rfl
theorem lk_Address_high {v0 v1 v2 v3 v4 : V} : (F_Address v0 v1 v2 v3 v4).lookup ("high" : Str) = some v3 := by kernel_rfl
theorem pt_Address_high {v0 v1 v2 v3 v4 y : V} : putF "high" y (F_Address v0 v1 v2 v3 v4) = F_Address v0 v1 v2 y v4 := by kernel_rfl
theorem lk_Address_nots {v0 v1 v2 v3 v4 : V} : (F_Address v0 v1 v2 v3 v4).lookup ("nots" : Str) = some v4 := by kernel_rfl
theorem pt_Address_nots {v0 v1 v2 v3 v4 y : V} : putF "nots" y (F_Address v0 v1 v2 v3 v4) = F_Address v0 v1 v2 v3 y := by kernel_rfl
theorem new_Address {v0 v1 v2 v3 v4 : V} : putF "nots" v4 (putF "high" v3 (putF "low" v2 (putF "letters" v1 (putF "word" v0 ([]))))) = F_Address v0 v1 v2 v3 v4 := by kernel_rfl
theorem len_Address {v0 v1 v2 v3 v4 : V} : (F_Address v0 v1 v2 v3 v4).length < 1000 := (by decide : 5 < 1000)
/-- Command's attributes, in the order of its __init__ -/
def F_Command (v0 v1 v2 v3 : V) : List (Str × V) := [("address", v0), ("word", v1), ("letters", v2), ("number", v3)]
theorem lk_Command_address {v0 v1 v2 v3 : V} : (F_Command v0 v1 v2 v3).lookup ("address" : Str) = some v0 := by kernel_rfl
theorem pt_Command_address {v0 v1 v2 v3 y : V} : putF "address" y (F_Command v0 v1 v2 v3) = F_Command y v1 v2 v3 := by kernel_rfl
theorem lk_Command_word {v0 v1 v2 v3 : V} : (F_Command v0 v1 v2 v3).lookup ("word" : Str) = some v1 := by kernel_rfl
theorem pt_Command_word {v0 v1 v2 v3 y : V} : putF "word" y (F_Command v0 v1 v2 v3) = F_Command v0 y v2 v3 := by kernel_rfl
theorem lk_Command_letters {v0 v1 v2 v3 : V} : (F_Command v0 v1 v2 v3).lookup ("letters" : Str) = some v2 := by kernel_rfl
theorem pt_Command_letters {v0 v1 v2 v3 y : V} : putF "letters" y (F_Command v0 v1 v2 v3) = F_Command v0 v1 y v3 := by kernel_rfl
theorem lk_Command_number {v0 v1 v2 v3 : V} : (F_Command v0 v1 v2 v3).lookup ("number" : Str) = some v3 := by kernel_rfl
theorem pt_Command_number {v0 v1 v2 v3 y : V} : putF "number" y (F_Command v0 v1 v2 v3) = F_Command v0 v1 v2 y := by kernel_rfl
theorem new_Command {v0 v1 v2 v3 : V} : putF "number" v3 (putF "letters" v2 (putF "word" v1 (putF "address" v0 ([])))) = F_Command v0 v1 v2 v3 := by kernel_rfl
theorem len_Command {v0 v1 v2 v3 : V} : (F_Command v0 v1 v2 v3).length < 1000 := (by decide : 4 < 1000)
/-- Reader's attributes, in the order of its __init__ -/
def F_Reader (v0 v1 : V) : List (Str × V) := [("tokens", v0), ("at", v1)]
theorem lk_Reader_tokens {v0 v1 : V} : (F_Reader v0 v1).lookup ("tokens" : Str) = some v0 := by kernel_rfl
theorem pt_Reader_tokens {v0 v1 y : V} : putF "tokens" y (F_Reader v0 v1) = F_Reader y v1 := by kernel_rfl
theorem lk_Reader_at {v0 v1 : V} : (F_Reader v0 v1).lookup ("at" : Str) = some v1 := by kernel_rfl
theorem pt_Reader_at {v0 v1 y : V} : putF "at" y (F_Reader v0 v1) = F_Reader v0 y := by kernel_rfl
theorem nl_Reader_ahead {v0 v1 : V} : (F_Reader v0 v1).lookup ("ahead" : Str) = none := by kernel_rfl
theorem nl_Reader_fail {v0 v1 : V} : (F_Reader v0 v1).lookup ("fail" : Str) = none := by kernel_rfl
theorem nl_Reader_is_word {v0 v1 : V} : (F_Reader v0 v1).lookup ("is_word" : Str) = none := by kernel_rfl
theorem nl_Reader_take {v0 v1 : V} : (F_Reader v0 v1).lookup ("take" : Str) = none := by kernel_rfl
theorem nl_Reader_take_word {v0 v1 : V} : (F_Reader v0 v1).lookup ("take_word" : Str) = none := by kernel_rfl
theorem nl_Reader_take_letters {v0 v1 : V} : (F_Reader v0 v1).lookup ("take_letters" : Str) = none := by kernel_rfl
theorem nl_Reader_take_number {v0 v1 : V} : (F_Reader v0 v1).lookup ("take_number" : Str) = none := by kernel_rfl
theorem new_Reader {v0 v1 : V} : putF "at" v1 (putF "tokens" v0 ([])) = F_Reader v0 v1 := by kernel_rfl
theorem len_Reader {v0 v1 : V} : (F_Reader v0 v1).length < 1000 := (by decide : 2 < 1000)
/-- Work's attributes, in the order of its __init__ -/
def F_Work (v0 v1 v2 v3 v4 v5 v6 v7 : V) : List (Str × V) := [("letters", v0), ("number", v1), ("is_last", v2), ("put_ahead", v3), ("put_behind", v4), ("is_deleted", v5), ("left_out", v6), ("is_done", v7)]
theorem lk_Work_letters {v0 v1 v2 v3 v4 v5 v6 v7 : V} : (F_Work v0 v1 v2 v3 v4 v5 v6 v7).lookup ("letters" : Str) = some v0 := by kernel_rfl
theorem pt_Work_letters {v0 v1 v2 v3 v4 v5 v6 v7 y : V} : putF "letters" y (F_Work v0 v1 v2 v3 v4 v5 v6 v7) = F_Work y v1 v2 v3 v4 v5 v6 v7 := by kernel_rfl
theorem lk_Work_number {v0 v1 v2 v3 v4 v5 v6 v7 : V} : (F_Work v0 v1 v2 v3 v4 v5 v6 v7).lookup ("number" : Str) = some v1 := by kernel_rfl
theorem pt_Work_number {v0 v1 v2 v3 v4 v5 v6 v7 y : V} : putF "number" y (F_Work v0 v1 v2 v3 v4 v5 v6 v7) = F_Work v0 y v2 v3 v4 v5 v6 v7 := by kernel_rfl
theorem lk_Work_is_last {v0 v1 v2 v3 v4 v5 v6 v7 : V} : (F_Work v0 v1 v2 v3 v4 v5 v6 v7).lookup ("is_last" : Str) = some v2 := by kernel_rfl
theorem pt_Work_is_last {v0 v1 v2 v3 v4 v5 v6 v7 y : V} : putF "is_last" y (F_Work v0 v1 v2 v3 v4 v5 v6 v7) = F_Work v0 v1 y v3 v4 v5 v6 v7 := by kernel_rfl
theorem lk_Work_put_ahead {v0 v1 v2 v3 v4 v5 v6 v7 : V} : (F_Work v0 v1 v2 v3 v4 v5 v6 v7).lookup ("put_ahead" : Str) = some v3 := by kernel_rfl
theorem pt_Work_put_ahead {v0 v1 v2 v3 v4 v5 v6 v7 y : V} : putF "put_ahead" y (F_Work v0 v1 v2 v3 v4 v5 v6 v7) = F_Work v0 v1 v2 y v4 v5 v6 v7 := by kernel_rfl
theorem lk_Work_put_behind {v0 v1 v2 v3 v4 v5 v6 v7 : V} : (F_Work v0 v1 v2 v3 v4 v5 v6 v7).lookup ("put_behind" : Str) = some v4 := by kernel_rfl
theorem pt_Work_put_behind {v0 v1 v2 v3 v4 v5 v6 v7 y : V} : putF "put_behind" y (F_Work v0 v1 v2 v3 v4 v5 v6 v7) = F_Work v0 v1 v2 v3 y v5 v6 v7 := by kernel_rfl
theorem lk_Work_is_deleted {v0 v1 v2 v3 v4 v5 v6 v7 : V} : (F_Work v0 v1 v2 v3 v4 v5 v6 v7).lookup ("is_deleted" : Str) = some v5 := by kernel_rfl
theorem pt_Work_is_deleted {v0 v1 v2 v3 v4 v5 v6 v7 y : V} : putF "is_deleted" y (F_Work v0 v1 v2 v3 v4 v5 v6 v7) = F_Work v0 v1 v2 v3 v4 y v6 v7 := by kernel_rfl
theorem lk_Work_left_out {v0 v1 v2 v3 v4 v5 v6 v7 : V} : (F_Work v0 v1 v2 v3 v4 v5 v6 v7).lookup ("left_out" : Str) = some v6 := by kernel_rfl
theorem pt_Work_left_out {v0 v1 v2 v3 v4 v5 v6 v7 y : V} : putF "left_out" y (F_Work v0 v1 v2 v3 v4 v5 v6 v7) = F_Work v0 v1 v2 v3 v4 v5 y v7 := by kernel_rfl
theorem lk_Work_is_done {v0 v1 v2 v3 v4 v5 v6 v7 : V} : (F_Work v0 v1 v2 v3 v4 v5 v6 v7).lookup ("is_done" : Str) = some v7 := by kernel_rfl
theorem pt_Work_is_done {v0 v1 v2 v3 v4 v5 v6 v7 y : V} : putF "is_done" y (F_Work v0 v1 v2 v3 v4 v5 v6 v7) = F_Work v0 v1 v2 v3 v4 v5 v6 y := by kernel_rfl
theorem nl_Work_lines {v0 v1 v2 v3 v4 v5 v6 v7 : V} : (F_Work v0 v1 v2 v3 v4 v5 v6 v7).lookup ("lines" : Str) = none := by kernel_rfl
theorem nl_Work_holds {v0 v1 v2 v3 v4 v5 v6 v7 : V} : (F_Work v0 v1 v2 v3 v4 v5 v6 v7).lookup ("holds" : Str) = none := by kernel_rfl
theorem nl_Work_holds_plain {v0 v1 v2 v3 v4 v5 v6 v7 : V} : (F_Work v0 v1 v2 v3 v4 v5 v6 v7).lookup ("holds_plain" : Str) = none := by kernel_rfl
theorem nl_Work_put_letters {v0 v1 v2 v3 v4 v5 v6 v7 : V} : (F_Work v0 v1 v2 v3 v4 v5 v6 v7).lookup ("put_letters" : Str) = none := by kernel_rfl
theorem new_Work {v0 v1 v2 v3 v4 v5 v6 v7 : V} : putF "is_done" v7 (putF "left_out" v6 (putF "is_deleted" v5 (putF "put_behind" v4 (putF "put_ahead" v3 (putF "is_last" v2 (putF "number" v1 (putF "letters" v0 ([])))))))) = F_Work v0 v1 v2 v3 v4 v5 v6 v7 := by kernel_rfl
theorem len_Work {v0 v1 v2 v3 v4 v5 v6 v7 : V} : (F_Work v0 v1 v2 v3 v4 v5 v6 v7).length < 1000 := (by decide : 8 < 1000)
/-- Run's attributes, in the order of its __init__ -/
def F_Run (v0 v1 v2 : V) : List (Str × V) := [("commands", v0), ("held", v1), ("came", v2)]
theorem lk_Run_commands {v0 v1 v2 : V} : (F_Run v0 v1 v2).lookup ("commands" : Str) = some v0 := by kernel_rfl
theorem pt_Run_commands {v0 v1 v2 y : V} : putF "commands" y (F_Run v0 v1 v2) = F_Run y v1 v2 := by kernel_rfl
theorem lk_Run_held {v0 v1 v2 : V} : (F_Run v0 v1 v2).lookup ("held" : Str) = some v1 := by kernel_rfl
theorem pt_Run_held {v0 v1 v2 y : V} : putF "held" y (F_Run v0 v1 v2) = F_Run v0 y v2 := by kernel_rfl
theorem lk_Run_came {v0 v1 v2 : V} : (F_Run v0 v1 v2).lookup ("came" : Str) = some v2 := by kernel_rfl
theorem pt_Run_came {v0 v1 v2 y : V} : putF "came" y (F_Run v0 v1 v2) = F_Run v0 v1 y := by kernel_rfl
theorem nl_Run_go_over {v0 v1 v2 : V} : (F_Run v0 v1 v2).lookup ("go_over" : Str) = none := by kernel_rfl
theorem nl_Run_look_at {v0 v1 v2 : V} : (F_Run v0 v1 v2).lookup ("look_at" : Str) = none := by kernel_rfl
theorem nl_Run_do {v0 v1 v2 : V} : (F_Run v0 v1 v2).lookup ("do" : Str) = none := by kernel_rfl
theorem nl_Run_do_held {v0 v1 v2 : V} : (F_Run v0 v1 v2).lookup ("do_held" : Str) = none := by kernel_rfl
theorem new_Run {v0 v1 v2 : V} : putF "came" v2 (putF "held" v1 (putF "commands" v0 ([]))) = F_Run v0 v1 v2 := by kernel_rfl
theorem len_Run {v0 v1 v2 : V} : (F_Run v0 v1 v2).length < 1000 := (by decide : 3 < 1000)
/-- Desk's attributes, in the order of its __init__ -/
def F_Desk (v0 : V) : List (Str × V) := [("commands", v0)]
theorem lk_Desk_commands {v0 : V} : (F_Desk v0).lookup ("commands" : Str) = some v0 := by kernel_rfl
theorem pt_Desk_commands {v0 y : V} : putF "commands" y (F_Desk v0) = F_Desk y := by kernel_rfl
theorem nl_Desk_load {v0 : V} : (F_Desk v0).lookup ("load" : Str) = none := by kernel_rfl
theorem nl_Desk_patch_of {v0 : V} : (F_Desk v0).lookup ("patch_of" : Str) = none := by kernel_rfl
theorem new_Desk {v0 : V} : putF "commands" v0 ([]) = F_Desk v0 := by kernel_rfl
theorem len_Desk {v0 : V} : (F_Desk v0).length < 1000 := (by decide : 1 < 1000)

/-! ### the defs as they stand behind the top -/
section
variable (K : Frag) (mg : Str → Option Value)
structure FnAt (x : Str) (st : Stmt) (ps : List Str) : Prop where
  ex : ∃ f fd, FnP K x x st f fd ∧ mg x = some (.ref f) ∧ Binds K fd ps []
structure FnMt (C : Addr) (m qual : Str) (st : Stmt) (ps : List Str) : Prop where
  ex : ∃ f fd, FnP K m qual st f fd ∧ Meth K C m f ∧ Binds K fd ps []
structure FnCl (x : Str) (C : Addr) (qual : Str) (st : Stmt) (ps : List Str) : Prop where
  ex : ∃ f fd, FnP K "__init__" qual st f fd ∧ Mk K C f ∧ mg x = some (.ref C) ∧ Binds K fd ps []
end
section
variable {P : Program} {w : World} {K : Frag} {mg : Str → Option Value} {base : Heap} {CX : CXT} {k : Nat} {x m qual : Str} {C : Addr} {st : Stmt} {ps : List Str} {sp : Sp}
theorem FnAt.dn (A : FnAt K mg x st ps) (h : ∀ f fd, FnP K x x st f fd → FnOk P w K mg base CX k f fd ps sp) : Dn P w K mg base CX k x ps sp := by
  obtain ⟨f, fd, h1, h2, h3⟩ := A.ex
  exact ⟨f, fd, h2, h1.kp, h3, h f fd h1⟩
theorem FnMt.dm (A : FnMt K C m qual st ps) (h : ∀ f fd, FnP K m qual st f fd → FnOk P w K mg base CX k f fd ps sp) : Dm P w K mg base CX k C m ps sp := by
  obtain ⟨f, fd, h1, h2, h3⟩ := A.ex
  exact ⟨f, fd, h2, h3, h f fd h1⟩
theorem FnCl.dc (A : FnCl K mg x C qual st ps) (h : ∀ f fd, FnP K "__init__" qual st f fd → FnOk P w K mg base CX0 k f fd ps sp) : Dc P w K mg base k x C ps sp := by
  obtain ⟨f, fd, h1, h2, h3, h4⟩ := A.ex
  exact ⟨f, fd, h2, h3, h4, h f fd h1⟩
end
end Lp
end
section
set_option maxHeartbeats 4000000
/-! ### plain Lean: the table, the least patch -/
namespace Lp
open Vasedc Vaseda
/-- how many lines are in common from two places on -/
def ce (a b : Text) (i j : Nat) : Nat := cell (tableOf a b) i j
theorem row_len (x : Line) : ∀ (b : Text) (n : List Nat), (rowOf x b n).length = b.length + 1
  | [], n => rfl
  | y :: r, n => by
    show ((if x = y then (n.drop 1).headD 0 + 1 else Nat.max (n.headD 0) ((rowOf x r (n.drop 1)).headD 0)) :: rowOf x r (n.drop 1)).length = _
    rw [List.length_cons, row_len x r]
    rfl
theorem headD_getD (l : List Nat) : l.headD 0 = l.getD 0 0 := by cases l <;> rfl
theorem drop1_getD (l : List Nat) (j : Nat) : (l.drop 1).getD j 0 = l.getD (j + 1) 0 := by
  cases l with
  | nil => rfl
  | cons a l => rfl
theorem row_get (x : Line) : ∀ (b : Text) (n : List Nat) (j : Nat) (hj : j < b.length), (rowOf x b n).getD j 0 =
    if x = b[j] then n.getD (j + 1) 0 + 1 else Nat.max (n.getD j 0) ((rowOf x b n).getD (j + 1) 0)
  | y :: r, n, 0, _ => by
    show (if x = y then (n.drop 1).headD 0 + 1 else Nat.max (n.headD 0) ((rowOf x r (n.drop 1)).headD 0)) = if x = y then _ else Nat.max _ ((rowOf x r (n.drop 1)).getD 0 0)
    rw [headD_getD, headD_getD, headD_getD, drop1_getD]
  | y :: r, n, j + 1, hj => by
    have hj' : j < r.length := by simpa using hj
    have ih := row_get x r (n.drop 1) j hj'
    show (rowOf x r (n.drop 1)).getD j 0 = if x = r[j] then _ else Nat.max _ ((rowOf x r (n.drop 1)).getD (j + 1) 0)
    rw [ih, drop1_getD, drop1_getD]
theorem row_end (x : Line) : ∀ (b : Text) (n : List Nat) (j : Nat), b.length ≤ j → (rowOf x b n).getD j 0 = 0
  | [], n, 0, _ => rfl
  | [], n, j + 1, _ => rfl
  | y :: r, n, j + 1, h => by
    show (rowOf x r (n.drop 1)).getD j 0 = 0
    exact row_end x r _ j (by simpa using h)
theorem table_head (a b : Text) (j : Nat) : ((tableOf a b).headD []).getD j 0 = ce a b 0 j := by
  cases a with
  | nil => simp [tableOf, ce, cell, List.getD]
  | cons x r => simp [tableOf, ce, cell, List.getD]
theorem ce_succ (x : Line) (a b : Text) (i j : Nat) : ce (x :: a) b (i + 1) j = ce a b i j := by
  simp [ce, cell, tableOf]
theorem ce_zero (x : Line) (a b : Text) (j : Nat) : ce (x :: a) b 0 j = (rowOf x b ((tableOf a b).headD [])).getD j 0 := by
  simp [ce, cell, tableOf, List.getD]
theorem ce_nil (b : Text) (i j : Nat) : ce [] b i j = 0 := by
  unfold ce cell tableOf
  cases i with
  | zero =>
    simp only [List.getElem?_cons_zero, Option.bind_some, List.getElem?_replicate]
    split <;> rfl
  | succ i => simp
theorem ce_end0 : ∀ (a b : Text) (i j : Nat), a.length ≤ i → ce a b i j = 0
  | [], b, i, j, _ => ce_nil b i j
  | x :: a, b, i + 1, j, h => by
    rw [ce_succ]
    exact ce_end0 a b i j (by simpa using h)
theorem ce_end1 : ∀ (a b : Text) (i j : Nat), b.length ≤ j → ce a b i j = 0
  | [], b, i, j, _ => ce_nil b i j
  | x :: a, b, 0, j, h => by
    rw [ce_zero]
    exact row_end x b _ j h
  | x :: a, b, i + 1, j, h => by
    rw [ce_succ]
    exact ce_end1 a b i j h
theorem ce_step : ∀ (a b : Text) (i j : Nat) (hi : i < a.length) (hj : j < b.length), ce a b i j =
    if a[i] = b[j] then ce a b (i + 1) (j + 1) + 1 else Nat.max (ce a b (i + 1) j) (ce a b i (j + 1))
  | x :: a, b, 0, j, _, hj => by
    rw [ce_zero, ce_zero, row_get x b _ j hj, table_head, table_head, ce_succ, ce_succ]
    rfl
  | x :: a, b, i + 1, j, hi, hj => by
    have ih := ce_step a b i j (by simpa using hi) hj
    rw [ce_succ, ce_succ, ce_succ, ce_succ, ih]
    rfl
/-! the least patch from two places on; fuel does not matter where it is enough -/
theorem patchBy_fuel (T : Table) : ∀ (f g i j : Nat) (a b : Text), a.length + b.length < f → a.length + b.length < g → patchBy T f i j a b = patchBy T g i j a b
  | f + 1, g + 1, i, j, [], b, _, _ => rfl
  | f + 1, g + 1, i, j, x :: r, [], _, _ => rfl
  | f + 1, g + 1, i, j, x :: r, y :: s, h1, h2 => by
    have l1 : (x :: r).length = r.length + 1 := rfl
    have l2 : (y :: s).length = s.length + 1 := rfl
    show (if x = y then _ else if cell T i (j + 1) ≤ cell T (i + 1) j then _ else _) = (if x = y then _ else if cell T i (j + 1) ≤ cell T (i + 1) j then _ else _)
    rw [patchBy_fuel T f g (i + 1) (j + 1) r s (by omega) (by omega), patchBy_fuel T f g (i + 1) j r (y :: s) (by omega) (by omega), patchBy_fuel T f g i (j + 1) (x :: r) s (by omega) (by omega)]
/-- the least patch of what is left -/
def pFrom (a b : Text) (i j : Nat) : Patch := patchBy (tableOf a b) (a.length + b.length + 1) i j (a.drop i) (b.drop j)
theorem pFrom_zero (a b : Text) : pFrom a b 0 0 = Vasedc.patch a b := rfl
theorem pFrom_end0 (a b : Text) (i j : Nat) (h : a.length ≤ i) : pFrom a b i j = (b.drop j).map Op.put := by
  unfold pFrom
  rw [List.drop_eq_nil_of_le h]
  rfl
theorem pFrom_end1 (a b : Text) (i j : Nat) (h : b.length ≤ j) : pFrom a b i j = (a.drop i).map Op.drop := by
  unfold pFrom
  rw [List.drop_eq_nil_of_le h]
  cases a.drop i <;> rfl
theorem pFrom_step (a b : Text) (i j : Nat) (hi : i < a.length) (hj : j < b.length) : pFrom a b i j =
    if a[i] = b[j] then .keep a[i] :: pFrom a b (i + 1) (j + 1) else if ce a b i (j + 1) ≤ ce a b (i + 1) j then .drop a[i] :: pFrom a b (i + 1) j else .put b[j] :: pFrom a b i (j + 1) := by
  have e1 : a.drop i = a[i] :: a.drop (i + 1) := List.drop_eq_getElem_cons hi
  have e2 : b.drop j = b[j] :: b.drop (j + 1) := List.drop_eq_getElem_cons hj
  have n1 : (a.drop (i + 1)).length = a.length - (i + 1) := List.length_drop
  have n2 : (b.drop (j + 1)).length = b.length - (j + 1) := List.length_drop
  unfold pFrom
  rw [e1, e2]
  show (if a[i] = b[j] then .keep a[i] :: patchBy (tableOf a b) (a.length + b.length) (i + 1) (j + 1) (a.drop (i + 1)) (b.drop (j + 1)) else
    if ce a b i (j + 1) ≤ ce a b (i + 1) j then .drop a[i] :: patchBy (tableOf a b) (a.length + b.length) (i + 1) j (a.drop (i + 1)) (b[j] :: b.drop (j + 1)) else .put b[j] :: patchBy (tableOf a b) (a.length + b.length) i (j + 1) (a[i] :: a.drop (i + 1)) (b.drop (j + 1))) = _
  rw [patchBy_fuel _ _ (a.length + b.length + 1) _ _ (a.drop (i + 1)) (b.drop (j + 1)) (by omega) (by omega),
    patchBy_fuel _ _ (a.length + b.length + 1) _ _ (a.drop (i + 1)) (b[j] :: b.drop (j + 1)) (by rw [List.length_cons]; omega) (by rw [List.length_cons]; omega),
    patchBy_fuel _ _ (a.length + b.length + 1) _ _ (a[i] :: a.drop (i + 1)) (b.drop (j + 1)) (by rw [List.length_cons]; omega) (by rw [List.length_cons]; omega)]
end Lp
end
section
set_option maxHeartbeats 4000000
/-! ### the data as they lie in the heap; loops over them -/
namespace Lp
open PySem PySem.Spec PyProof.Rows L2
open PySem.W (Frag)
open Vaseda (Line Text)
open Vasedc (Op Patch)
open VasedBase (Bytes)

/-- letters as a text of the program -/
def sOf (b : Bytes) : Str := ⟨(b.map UInt8.toNat).toArray⟩
theorem sOf_len (b : Bytes) : (sOf b).length = b.length := by
  show (b.map UInt8.toNat).toArray.size = _
  simp
theorem toNat_inj : ∀ {a b : Bytes}, a.map UInt8.toNat = b.map UInt8.toNat → a = b
  | [], [], _ => rfl
  | [], y :: b, h => by simp at h
  | x :: a, [], h => by simp at h
  | x :: a, y :: b, h => by
    rw [List.map_cons, List.map_cons] at h
    obtain ⟨h1, h2⟩ := List.cons.inj h
    rw [UInt8.toNat_inj.mp h1, toNat_inj h2]
theorem sOf_inj {a b : Bytes} (h : sOf a = sOf b) : a = b := by
  have h1 : (b.map UInt8.toNat).toArray = (a.map UInt8.toNat).toArray := (congrArg Str.cps h).symm
  have h2 : b.map UInt8.toNat = a.map UInt8.toNat := by simpa using congrArg Array.toList h1
  exact (toNat_inj h2).symm
theorem sOf_eq {a b : Bytes} : (sOf a = sOf b) = (a = b) := propext ⟨sOf_inj, fun h => by rw [h]⟩
abbrev vS (b : Bytes) : V := .str (sOf b)
theorem vS_eq {a b : Bytes} : decide (vS a = vS b) = decide (a = b) := by
  by_cases h : a = b
  · rw [h]; simp
  · rw [decide_eq_false h, decide_eq_false fun z => h (sOf_inj (by injection z))]
/-- bytes as a list of whole numbers -/
abbrev vB (b : Bytes) : List V := b.map fun c => V.int (c.toNat : Int)
/-- a text's lines -/
abbrev vT (t : Text) : List V := t.map vS
/-- a mark -/
def kOf : Op → Int
  | .keep _ => 0
  | .drop _ => 1
  | .put _ => 2
abbrev mkT (o : Op) : List V := [.int (kOf o), vS (Vasedc.lineIn o)]
abbrev MkTs (H : Hp) (p : Patch) (ts : List Addr) : Prop := Paired (fun o t => H t = some (.tup (mkT o))) p ts
/-- a patch at an address -/
def MkAt (H : Hp) (a : Addr) (p : Patch) : Prop := ∃ ts, H a = some (.lst (ts.map V.ref)) ∧ MkTs H p ts
theorem MkTs.mono {H H' : Hp} {p : Patch} {ts : List Addr} (s : Same H H') (h : MkTs H p ts) : MkTs H' p ts := Paired.mapP h fun _ _ e => s _ _ e
theorem MkAt.mono {H H' : Hp} {a : Addr} {p : Patch} (s : Same H H') : MkAt H a p → MkAt H' a p := fun ⟨ts, h1, h2⟩ => ⟨ts, s _ _ h1, h2.mono s⟩

/-! ### pairs -/
end Lp
namespace PySem
theorem Paired.app {α β : Type} {F : α → β → Prop} : ∀ {l l' : List α} {r r' : List β}, Paired F l r → Paired F l' r' → Paired F (l ++ l') (r ++ r')
  | _, _, _, _, .nil, h => h
  | _, _, _, _, .cons h t, h2 => .cons h (Paired.app t h2)
theorem Paired.one {α β : Type} {F : α → β → Prop} {l : List α} {r : List β} {a : α} {b : β} (h1 : Paired F l r) (h2 : F a b) : Paired F (l ++ [a]) (r ++ [b]) := Paired.app h1 (.cons h2 .nil)
theorem Paired.at {α β : Type} {F : α → β → Prop} : ∀ {l : List α} {r : List β} {i : Nat} {b : β}, Paired F l r → r[i]? = some b → ∃ a, l[i]? = some a ∧ F a b
  | _, _, _, _, .nil, e => by simp at e
  | _, _, 0, _, .cons h _, e => ⟨_, rfl, by have e' := Option.some.inj e; rw [← e']; exact h⟩
  | _, _, i + 1, b, .cons _ t, e => by
    have e' : _ = some b := e
    obtain ⟨a, h1, h2⟩ := Paired.at (i := i) t (by simpa using e')
    exact ⟨a, by simpa using h1, h2⟩
theorem Paired.to {α β : Type} {F : α → β → Prop} : ∀ {l : List α} {r : List β} {i : Nat} {a : α}, Paired F l r → l[i]? = some a → ∃ b, r[i]? = some b ∧ F a b
  | _, _, _, _, .nil, e => by simp at e
  | _, _, 0, _, .cons h _, e => ⟨_, rfl, by have e' := Option.some.inj e; rw [← e']; exact h⟩
  | _, _, i + 1, b, .cons _ t, e => by
    have e' : _ = some b := e
    obtain ⟨a, h1, h2⟩ := Paired.to (i := i) t (by simpa using e')
    exact ⟨a, by simpa using h1, h2⟩
end PySem
namespace Lp
open PySem PySem.Spec PyProof.Rows L2
open PySem.W (Frag)
open Vaseda (Line Text)
open Vasedc (Op Patch)
open VasedBase (Bytes)
theorem split_at {α : Type} {l : List α} {i : Nat} {x : α} (h : l[i]? = some x) : l = l.take i ++ x :: l.drop (i + 1) := by
  obtain ⟨hi, e⟩ := List.getElem?_eq_some_iff.mp h
  rw [← e, ← List.drop_eq_getElem_cons hi, List.take_append_drop]
theorem take_snoc {α : Type} {l : List α} {i : Nat} {x : α} (h : l[i]? = some x) : l.take (i + 1) = l.take i ++ [x] := by
  obtain ⟨hi, e⟩ := List.getElem?_eq_some_iff.mp h
  rw [List.take_succ, h]
  rfl

/-! ### a loop over a list, what is gone through in hand -/
theorem for_pre {K : Frag} {a : Addr} {xs : List V} {g : TG} {tb : TS} {D : Ends} {σ : L2.St} {H : Hp} (Pv : List V → L2.St → Hp → Prop) (h0 : Pv [] σ H) (hl : ∀ pre σ H, Pv pre σ H → SqL K H a xs)
    (hs : ∀ pre x post σ H, xs = pre ++ x :: post → Pv pre σ H → g x σ H fun σ2 H2 => tb { D with nx := Pv (pre ++ [x]), ct := Pv (pre ++ [x]), bk := D.nx } σ2 H2) (hd : ∀ σ H, Pv xs σ H → D.nx σ H) :
    ∃ W : Nat → Nat → L2.St → Hp → Prop, (∃ m, W 0 m σ H) ∧ ∀ i m σ H, W i m σ H →
      ((Itl K a).stop i H ∧ D.nx σ H) ∨ ((Itl K a).go i H ∧ ∃ N : L2.St → Hp → Prop, (∀ σ' H', N σ' H' → ∃ m', m' < m ∧ W (i + 1) m' σ' H') ∧ ∀ x H', (Itl K a).yld i H x H' → g x σ H' fun σ2 H2 => tb { D with nx := N, ct := N, bk := D.nx } σ2 H2) :=
  for_list (xs := xs) (fun i σ H => Pv (xs.take i) σ H) h0 (fun i σ H _ h => hl _ σ H h) (fun i x σ H e h => by
    have z := hs (xs.take i) x (xs.drop (i + 1)) σ H (split_at e) h
    rw [← take_snoc e] at z
    exact z) (fun σ H h => hd σ H (by rw [List.take_length] at h; exact h))
/-- .. over a patch -/
theorem for_mk {K : Frag} {a : Addr} {p : Patch} {H0 : Hp} (h00 : MkAt H0 a p) {g : TG} {tb : TS} {D : Ends} {σ : L2.St} {H : Hp} (Pv : Patch → L2.St → Hp → Prop) (h0 : Pv [] σ H) (hl : ∀ pre σ H, Pv pre σ H → Same H0 H)
    (hs : ∀ pre o post t σ H, p = pre ++ o :: post → Pv pre σ H → H t = some (.tup (mkT o)) → g (.ref t) σ H fun σ2 H2 => tb { D with nx := Pv (pre ++ [o]), ct := Pv (pre ++ [o]), bk := D.nx } σ2 H2) (hd : ∀ σ H, Pv p σ H → D.nx σ H) :
    ∃ W : Nat → Nat → L2.St → Hp → Prop, (∃ m, W 0 m σ H) ∧ ∀ i m σ H, W i m σ H →
      ((Itl K a).stop i H ∧ D.nx σ H) ∨ ((Itl K a).go i H ∧ ∃ N : L2.St → Hp → Prop, (∀ σ' H', N σ' H' → ∃ m', m' < m ∧ W (i + 1) m' σ' H') ∧ ∀ x H', (Itl K a).yld i H x H' → g x σ H' fun σ2 H2 => tb { D with nx := N, ct := N, bk := D.nx } σ2 H2) := by
  obtain ⟨ts, h1, h2⟩ := h00
  have hl2 := Paired.length h2
  refine for_list (xs := ts.map V.ref) (fun i σ H => Pv (p.take i) σ H) h0 (fun i σ H _ h => .of (hl _ σ H h _ _ h1)) (fun i x σ H e h => ?_) (fun σ H h => hd σ H ?_)
  · rw [List.getElem?_map] at e
    obtain ⟨t, et, rfl⟩ := Option.map_eq_some_iff.mp e
    obtain ⟨o, eo, ho⟩ := Paired.at h2 et
    have z := hs (p.take i) o (p.drop (i + 1)) t σ H (split_at eo) h (hl _ σ H h _ _ ho)
    rw [← take_snoc eo] at z
    exact z
  · rw [List.length_map, ← hl2, List.take_length] at h
    exact h
/-- a list comprehension over a list -/
theorem lc_pre {K : Frag} {a : Addr} {xs : List V} {g : TG} {tt : TT} {te : TE} {vs : List Nat} {σ : L2.St} {H1 : Hp} {D : Addr} {Qd : Hp → Prop} (Pv : List V → Hp → Prop) (h0 : Pv [] (upd H1 D (.lst []))) (hl : ∀ pre H, Pv pre H → SqL K H a xs)
    (hs : ∀ pre x post H, xs = pre ++ x :: post → Pv pre H → g x (wipe σ vs) H fun σ2 H2 => wipe σ2 vs = wipe σ vs ∧ tt σ2 H2 fun b H3 =>
      if b = true then te σ2 H3 fun y H4 => ∃ acc, H4 D = some (.lst acc) ∧ acc.length < sizeLine ∧ Pv (pre ++ [x]) (upd H4 D (.lst (acc ++ [y]))) else Pv (pre ++ [x]) H3) (hd : ∀ H, Pv xs H → Qd H) :
    ∃ W : Nat → Nat → Hp → Prop, (∃ m, W 0 m (upd H1 D (.lst []))) ∧ ∀ i m H, W i m H →
      ((Itl K a).stop i H ∧ Qd H) ∨ ((Itl K a).go i H ∧ ∃ Nx : Hp → Prop, (∀ H', Nx H' → ∃ m', m' < m ∧ W (i + 1) m' H') ∧ ∀ x H', (Itl K a).yld i H x H' → g x (wipe σ vs) H' fun σ2 H2 => wipe σ2 vs = wipe σ vs ∧ tt σ2 H2 fun b H3 =>
        if b = true then te σ2 H3 fun y H4 => ∃ acc, H4 D = some (.lst acc) ∧ acc.length < sizeLine ∧ Nx (upd H4 D (.lst (acc ++ [y]))) else Nx H3) :=
  lc_list (xs := xs) (fun i H => Pv (xs.take i) H) h0 (fun i H _ h => hl _ H h) (fun i x H e h => by
    have z := hs (xs.take i) x (xs.drop (i + 1)) H (split_at e) h
    rw [← take_snoc e] at z
    exact z) (fun H h => hd H (by rw [List.take_length] at h; exact h))
theorem lc_mk {K : Frag} {a : Addr} {p : Patch} {H0 : Hp} (h00 : MkAt H0 a p) {g : TG} {tt : TT} {te : TE} {vs : List Nat} {σ : L2.St} {H1 : Hp} {D : Addr} {Qd : Hp → Prop} (Pv : Patch → Hp → Prop) (h0 : Pv [] (upd H1 D (.lst []))) (hl : ∀ pre H, Pv pre H → Same H0 H)
    (hs : ∀ pre o post t H, p = pre ++ o :: post → Pv pre H → H t = some (.tup (mkT o)) → g (.ref t) (wipe σ vs) H fun σ2 H2 => wipe σ2 vs = wipe σ vs ∧ tt σ2 H2 fun b H3 =>
      if b = true then te σ2 H3 fun y H4 => ∃ acc, H4 D = some (.lst acc) ∧ acc.length < sizeLine ∧ Pv (pre ++ [o]) (upd H4 D (.lst (acc ++ [y]))) else Pv (pre ++ [o]) H3) (hd : ∀ H, Pv p H → Qd H) :
    ∃ W : Nat → Nat → Hp → Prop, (∃ m, W 0 m (upd H1 D (.lst []))) ∧ ∀ i m H, W i m H →
      ((Itl K a).stop i H ∧ Qd H) ∨ ((Itl K a).go i H ∧ ∃ Nx : Hp → Prop, (∀ H', Nx H' → ∃ m', m' < m ∧ W (i + 1) m' H') ∧ ∀ x H', (Itl K a).yld i H x H' → g x (wipe σ vs) H' fun σ2 H2 => wipe σ2 vs = wipe σ vs ∧ tt σ2 H2 fun b H3 =>
        if b = true then te σ2 H3 fun y H4 => ∃ acc, H4 D = some (.lst acc) ∧ acc.length < sizeLine ∧ Nx (upd H4 D (.lst (acc ++ [y]))) else Nx H3) := by
  obtain ⟨ts, h1, h2⟩ := h00
  have hl2 := Paired.length h2
  refine lc_list (xs := ts.map V.ref) (fun i H => Pv (p.take i) H) h0 (fun i H _ h => .of (hl _ H h _ _ h1)) (fun i x H e h => ?_) (fun H h => hd H ?_)
  · rw [List.getElem?_map] at e
    obtain ⟨t, et, rfl⟩ := Option.map_eq_some_iff.mp e
    obtain ⟨o, eo, ho⟩ := Paired.at h2 et
    have z := hs (p.take i) o (p.drop (i + 1)) t H (split_at eo) h (hl _ H h _ _ ho)
    rw [← take_snoc eo] at z
    exact z
  · rw [List.length_map, ← hl2, List.take_length] at h
    exact h
/-- over a list that is a map -/
theorem for_map {K : Frag} {α : Type} (fv : α → V) {a : Addr} {l : List α} {g : TG} {tb : TS} {D : Ends} {σ : L2.St} {H : Hp} (Pv : List α → L2.St → Hp → Prop) (h0 : Pv [] σ H) (hl : ∀ pre σ H, Pv pre σ H → SqL K H a (l.map fv))
    (hs : ∀ pre x post σ H, l = pre ++ x :: post → Pv pre σ H → g (fv x) σ H fun σ2 H2 => tb { D with nx := Pv (pre ++ [x]), ct := Pv (pre ++ [x]), bk := D.nx } σ2 H2) (hd : ∀ σ H, Pv l σ H → D.nx σ H) :
    ∃ W : Nat → Nat → L2.St → Hp → Prop, (∃ m, W 0 m σ H) ∧ ∀ i m σ H, W i m σ H →
      ((Itl K a).stop i H ∧ D.nx σ H) ∨ ((Itl K a).go i H ∧ ∃ N : L2.St → Hp → Prop, (∀ σ' H', N σ' H' → ∃ m', m' < m ∧ W (i + 1) m' σ' H') ∧ ∀ x H', (Itl K a).yld i H x H' → g x σ H' fun σ2 H2 => tb { D with nx := N, ct := N, bk := D.nx } σ2 H2) :=
  for_list (xs := l.map fv) (fun i σ H => Pv (l.take i) σ H) h0 (fun i σ H _ h => hl _ σ H h) (fun i x σ H e h => by
    rw [List.getElem?_map] at e
    obtain ⟨y, ey, rfl⟩ := Option.map_eq_some_iff.mp e
    have z := hs (l.take i) y (l.drop (i + 1)) σ H (split_at ey) h
    rw [← take_snoc ey] at z
    exact z) (fun σ H h => hd σ H (by rw [List.length_map, List.take_length] at h; exact h))
theorem lc_map {K : Frag} {α : Type} (fv : α → V) {a : Addr} {l : List α} {g : TG} {tt : TT} {te : TE} {vs : List Nat} {σ : L2.St} {H1 : Hp} {D : Addr} {Qd : Hp → Prop} (Pv : List α → Hp → Prop) (h0 : Pv [] (upd H1 D (.lst []))) (hl : ∀ pre H, Pv pre H → SqL K H a (l.map fv))
    (hs : ∀ pre x post H, l = pre ++ x :: post → Pv pre H → g (fv x) (wipe σ vs) H fun σ2 H2 => wipe σ2 vs = wipe σ vs ∧ tt σ2 H2 fun b H3 =>
      if b = true then te σ2 H3 fun y H4 => ∃ acc, H4 D = some (.lst acc) ∧ acc.length < sizeLine ∧ Pv (pre ++ [x]) (upd H4 D (.lst (acc ++ [y]))) else Pv (pre ++ [x]) H3) (hd : ∀ H, Pv l H → Qd H) :
    ∃ W : Nat → Nat → Hp → Prop, (∃ m, W 0 m (upd H1 D (.lst []))) ∧ ∀ i m H, W i m H →
      ((Itl K a).stop i H ∧ Qd H) ∨ ((Itl K a).go i H ∧ ∃ Nx : Hp → Prop, (∀ H', Nx H' → ∃ m', m' < m ∧ W (i + 1) m' H') ∧ ∀ x H', (Itl K a).yld i H x H' → g x (wipe σ vs) H' fun σ2 H2 => wipe σ2 vs = wipe σ vs ∧ tt σ2 H2 fun b H3 =>
        if b = true then te σ2 H3 fun y H4 => ∃ acc, H4 D = some (.lst acc) ∧ acc.length < sizeLine ∧ Nx (upd H4 D (.lst (acc ++ [y]))) else Nx H3) :=
  lc_list (xs := l.map fv) (fun i H => Pv (l.take i) H) h0 (fun i H _ h => hl _ H h) (fun i x H e h => by
    rw [List.getElem?_map] at e
    obtain ⟨y, ey, rfl⟩ := Option.map_eq_some_iff.mp e
    have z := hs (l.take i) y (l.drop (i + 1)) H (split_at ey) h
    rw [← take_snoc ey] at z
    exact z) (fun H h => hd H (by rw [List.length_map, List.take_length] at h; exact h))
theorem pre_len {α : Type} {l pre post : List α} {x : α} (e : l = pre ++ x :: post) : pre.length < l.length := by
  rw [e, List.length_append, List.length_cons]
  omega
theorem cutV_from (xs : List V) (i : Nat) (h : i ≤ xs.length) : cutV xs (some (i : Int)) none = xs.drop i := by
  unfold cutV
  rw [HT.sIx_nat, HT.sIx_none, Nat.min_eq_left h]
  exact List.take_of_length_le (by rw [List.length_drop]; omega)
theorem cutV_to (xs : List V) (i j : Nat) (hi : i ≤ j) (h : j ≤ xs.length) : cutV xs (some (i : Int)) (some (j : Int)) = (xs.drop i).take (j - i) := by
  unfold cutV
  rw [HT.sIx_nat, HT.sIx_nat, Nat.min_eq_left h, Nat.min_eq_left (by omega)]
/-- a mark more: its tuple at p, the list at F -/
theorem MkTs.add {H : Hp} {p F : Addr} {q : Patch} {ts : List Addr} {o : Op} {l : HO} (h : MkTs H q ts) (hp : H p = none) (hF : H F = some (.lst (ts.map V.ref))) : MkTs (upd (upd H p (.tup (mkT o))) F l) (q ++ [o]) (ts ++ [p]) := by
  have pF : p ≠ F := fun z => by rw [z, hF] at hp; cases hp
  refine Paired.one (Paired.mapP h fun o t ht => ?_) ?_
  · rw [upd_ne (fun z => by rw [z, hF] at ht; cases ht), upd_ne (fun z => by rw [z, hp] at ht; cases ht)]
    exact ht
  · show upd (upd H p (.tup (mkT o))) F l p = _
    rw [upd_ne pF, upd_same]
theorem yes {σ : L2.St} {H : Hp} {F G : Hp → Prop} (h : F H) : tYes σ H fun b H3 => if b = true then F H3 else G H3 := iteT (B := G H) h
theorem small {n : Nat} (h : n ≤ 1000000) : n < sizeLine := Nat.lt_of_le_of_lt h (by decide)
theorem small' {n : Nat} (h : n ≤ 1000000) : n ≤ sizeLine := Nat.le_trans h (by decide)
theorem MkTs.addT {H : Hp} {p F : Addr} {q : Patch} {ts : List Addr} {o : Op} {l : HO} {xs : List V} (hx : xs = mkT o) (h : MkTs H q ts) (hp : H p = none) (hF : H F = some (.lst (ts.map V.ref))) : MkTs (upd (upd H p (.tup xs)) F l) (q ++ [o]) (ts ++ [p]) := by
  subst hx
  exact MkTs.add h hp hF
/-- [(c, line) for line in l] -/
theorem lc_tag {K : Frag} {a : Addr} {l : Text} {i : Nat} {c : Int} (k : Line → Op) (hk : ∀ x, mkT (k x) = [.int c, vS x]) {vs : List Nat} {σ : L2.St} {H1 : Hp} {D : Addr} {Qd : Hp → Prop} (hl : H1 a = some (.lst (vT l))) (hz : l.length ≤ 1000) (hD : H1 D = none)
    (hw : ∀ x, wipe ((wipe σ vs).set i (some x)) vs = wipe σ vs) (hv : ∀ x, ((wipe σ vs).set i (some x))[i]? = some (some x))
    (hd : ∀ H' ts, Same H1 H' → H' D = some (.lst (ts.map V.ref)) → MkTs H' (l.map k) ts → Qd H') :
    ∃ W : Nat → Nat → Hp → Prop, (∃ m, W 0 m (upd H1 D (.lst []))) ∧ ∀ i' m H, W i' m H →
      ((Itl K a).stop i' H ∧ Qd H) ∨ ((Itl K a).go i' H ∧ ∃ Nx : Hp → Prop, (∀ H', Nx H' → ∃ m', m' < m ∧ W (i' + 1) m' H') ∧ ∀ x H', (Itl K a).yld i' H x H' → gName i x (wipe σ vs) H' fun σ2 H2 => wipe σ2 vs = wipe σ vs ∧ tYes σ2 H2 fun b H3 =>
        if b = true then tTup (tCons (tC (.int c)) (tCons (tVar i) tNil)) σ2 H3 fun y H4 => ∃ acc, H4 D = some (.lst acc) ∧ acc.length < sizeLine ∧ Nx (upd H4 D (.lst (acc ++ [y]))) else Nx H3) := by
  refine lc_map vS (fun pre H' => Same H1 H' ∧ ∃ ts, H' D = some (.lst (ts.map V.ref)) ∧ MkTs H' (pre.map k) ts) ⟨(Same.refl H1).new hD, [], upd_same, .nil⟩ (fun _ _ h => .of (h.1 _ _ hl)) ?_ ?_
  · rintro pre x post H' e ⟨s1, ts, h1, h2⟩
    refine ⟨hw _, yes ?_⟩
    refine ⟨_, hv _, by show 2 ≤ sizeLine; decide, fun p hp => ?_⟩
    have pD : D ≠ p := fun z => by rw [z, hp] at h1; cases h1
    refine ⟨ts.map V.ref, by rw [upd_ne pD]; exact h1, small ?_, (s1.new hp).mut hD, ts ++ [p], ?_, ?_⟩
    · have := pre_len e
      have := Paired.length h2
      rw [List.length_map] at this ⊢
      omega
    · rw [upd_same, List.map_append]
      rfl
    · rw [List.map_append]
      show MkTs (upd (upd H' p (.tup [.int c, vS x])) D _) _ _
      rw [← hk x]
      exact MkTs.add h2 hp h1
  · rintro H' ⟨s1, ts, h1, h2⟩
    exact hd H' ts s1 h1 h2
theorem if_yes {c : Bool} {A B : Prop} (hc : c = true) (h : A) : if c = true then A else B := by
  rw [if_pos hc]
  exact h
theorem if_no {c : Bool} {A B : Prop} (hc : c = false) (h : B) : if c = true then A else B := by
  rw [hc, if_neg Bool.false_ne_true]
  exact h
theorem if_of {c : Bool} {A B : Prop} (h1 : c = true → A) (h2 : c = false → B) : if c = true then A else B := by
  cases c with
  | true => exact iteT (h1 rfl)
  | false => exact iteF (h2 rfl)
end Lp
end
section
set_option maxHeartbeats 4000000
/-! ### marks: what a patch costs, the table, the least patch -/
namespace Lp
open PySem PySem.Spec PyProof.Rows L2
open PySem.W (Frag)
open Vaseda (Line Text)
open Vasedc (Op Patch)
section
variable {P : Program} {w : World} {K : Frag} {mg : Str → Option Value} {base : Heap}
/-! cost_of -/
abbrev s_cost_of : Stmt := topS 9
theorem sc_cost_of : FnScope ["marks", "kind", "line"] ["marks"] (defScope s_cost_of) := ⟨rfl, rfl, rfl, by decide +kernel, rfl, by decide +kernel, by decide +kernel⟩
def spCost : Sp := fun vs H Q _ => ∃ (a : Addr) (p : Patch), vs = [.ref a] ∧ MkAt H a p ∧ p.length ≤ 10000 ∧ ∀ H', Same H H' → Q (.int (Vasedc.costOf p : Nat)) H'
theorem kind_ne (o : Op) : (!decide (V.int (kOf o) = V.int 0)) = !Vasedc.isKeep o := by cases o <;> rfl
theorem ok_cost_of (A : FnAt K mg "cost_of" s_cost_of ["marks"]) (T : Txt K mg) : Dn P w K mg base CX0 1 "cost_of" ["marks"] spCost := A.dn fun f fd F => by
  refine ok0 F sc_cost_of (fun vs H Q E h => ?_) (fun cdv A outer s H vs Q E hr h => ?_)
  · obtain ⟨a, p, rfl, _⟩ := h
    rfl
  obtain ⟨a, p, rfl, hm, hz, k⟩ := h
  obtain ⟨ts, h1, h2⟩ := id hm
  refine ⟨_, (pss_one (ps_ret (pe_callB call_len (by rfl) T.f_len PySem.boot_len (pa_cons (by exact (pe_lc (own := [("kind", 1), ("line", 2)]) (by rfl) sc_cost_of.nd (pi_list (pv 0)) (blkOk_by (own := [("kind", 1), ("line", 2)]) (N := ["marks", "kind", "line"]) (sc := defScope s_cost_of) (by decide +kernel)) (fun _ _ _ _ _ => by exact (pg_tupK K 2 rfl (by rfl) (pgs_cons (pg_name (i := 1) sc_cost_of.nd rfl (Or.inl rfl)) (pgs_cons (pg_name (i := 2) sc_cost_of.nd rfl (Or.inl rfl)) pgs_nil)))) (fun _ _ _ _ _ => by exact (pts_one (pt_cmpR op_ne (pv 1) (pe_gint T.g_KEPT) (nomark _)))) (fun _ _ _ _ _ => by exact (pv 1)))) pa_nil)))), ?_⟩
  refine ⟨_, rfl, a, rfl, ⟨_, .of h1⟩, fun D hD => lc_mk hm (fun pre H' => Same H H' ∧ H' D = some (.lst ((pre.filter fun o => !Vasedc.isKeep o).map fun o => V.int (kOf o)))) ⟨Same.new (Same.refl H) hD, upd_same⟩ (fun _ _ h => h.1) ?_ ?_⟩
  · rintro pre o post t H' e ⟨s1, hl⟩ ht
    refine ⟨t, _, rfl, .of ht, rfl, _, _, rfl, _, _, rfl, rfl, rfl, ?_⟩
    refine ⟨_, rfl, rfl, _, rfl, ?_⟩
    rw [kind_ne]
    refine if_of (fun c => ?_) (fun c => ?_)
    · refine ⟨_, rfl, _, hl, ?_, s1.mut hD, ?_⟩
      · refine small ?_
        have l1 := List.length_filter_le (fun o => !Vasedc.isKeep o) pre
        have l2 : pre.length ≤ p.length := by rw [e, List.length_append]; omega
        rw [List.length_map]
        omega
      · rw [upd_same, List.filter_append, List.map_append, List.filter_cons, if_pos c]
        rfl
    · refine ⟨s1, ?_⟩
      rw [List.filter_append, List.map_append, List.filter_cons, if_neg (by rw [c]; exact Bool.false_ne_true), hl]
      simp
  · rintro H' ⟨s1, hl⟩
    refine ⟨_, _, rfl, .inl ⟨_, .of hl, rfl⟩, ?_⟩
    rw [List.length_map]
    exact k _ s1
end
end Lp
end
section
set_option maxHeartbeats 4000000
/-! ### commons -/
namespace Lp
open PySem PySem.Spec PyProof.Rows L2
open PySem.W (Frag)
open Vaseda (Line Text)
open Vasedc (Op Patch)
theorem ixN_nat {n j : Nat} {z : Int} (e : z = (j : Int)) (h : j < n) : ixN n z = some j := by
  unfold ixN
  rw [e, if_pos (by omega), if_pos (by omega)]
  rfl
theorem max_nat (a b : Nat) : (if (b : Int) > (a : Int) then (b : Int) else (a : Int)) = ((Nat.max a b : Nat) : Int) := by
  show _ = ((max a b : Nat) : Int)
  rw [Nat.max_def]
  split <;> split <;> omega
/-- a row of numbers -/
abbrev rowV (n : Nat) (g : Nat → Nat) : List V := (List.range (n + 1)).map fun j => V.int (g j : Nat)
theorem rowV_get {n j : Nat} {g : Nat → Nat} (h : j ≤ n) : (rowV n g)[j]? = some (.int (g j : Nat)) := by
  rw [List.getElem?_map, List.getElem?_range (by omega)]
  rfl
theorem rowV_len {n : Nat} {g : Nat → Nat} : (rowV n g).length = n + 1 := by simp
theorem rowV_set {n j v : Nat} {g : Nat → Nat} (h : j ≤ n) : (rowV n g).set j (.int (v : Nat)) = rowV n fun b => if b = j then v else g b := by
  apply List.ext_getElem?
  intro i
  by_cases e : j = i
  · subst e
    rw [List.getElem?_set_self (by rw [rowV_len]; omega), rowV_get h, if_pos rfl]
  · rw [List.getElem?_set_ne e, List.getElem?_map, List.getElem?_map]
    cases q : (List.range (n + 1))[i]? with
    | none => rfl
    | some b =>
      obtain ⟨h1, h2⟩ := List.getElem?_eq_some_iff.mp q
      have h3 : i = b := by simpa using h2
      show some _ = some (V.int ((if b = j then v else g b : Nat) : Int))
      rw [if_neg (by omega)]
structure Tab (H0 H : Hp) (tb : Addr) (rs : List Addr) (m n : Nat) (f : Nat → Nat → Nat) : Prop where
  same : Same H0 H
  tb0 : H0 tb = none
  tbl : H tb = some (.lst (rs.map V.ref))
  nd : rs.Nodup
  len : rs.length = m + 1
  fr : ∀ ad ∈ rs, H0 ad = none
  row : ∀ i ad, rs[i]? = some ad → H ad = some (.lst (rowV n (f i)))
  ne : tb ∉ rs
theorem Tab.get {H0 H : Hp} {tb : Addr} {rs : List Addr} {m n i : Nat} {f : Nat → Nat → Nat} (t : Tab H0 H tb rs m n f) (h : i ≤ m) : ∃ ad, rs[i]? = some ad ∧ (rs.map V.ref)[i]? = some (.ref ad) ∧ H ad = some (.lst (rowV n (f i))) := by
  have hl := t.len
  have e : rs[i]? = some rs[i] := List.getElem?_eq_getElem (by omega)
  exact ⟨_, e, by rw [List.getElem?_map, e]; rfl, t.row _ _ e⟩
theorem Tab.set {H0 H : Hp} {tb ad : Addr} {rs : List Addr} {m n i j v : Nat} {f f' : Nat → Nat → Nat} (t : Tab H0 H tb rs m n f) (hi : rs[i]? = some ad) (hj : j ≤ n) (hf : ∀ a b, f' a b = if a = i ∧ b = j then v else f a b) :
    Tab H0 (upd H ad (.lst ((rowV n (f i)).set j (.int (v : Nat))))) tb rs m n f' where
  same := t.same.mut (t.fr _ (List.mem_of_getElem? hi))
  tb0 := t.tb0
  tbl := by
    rw [upd_ne (fun z => t.ne (by rw [z]; exact List.mem_of_getElem? hi))]
    exact t.tbl
  nd := t.nd
  len := t.len
  fr := t.fr
  ne := t.ne
  row := fun k a hk => by
    rw [rowV_set hj]
    by_cases e : k = i
    · subst e
      rw [hi] at hk
      cases hk
      rw [upd_same]
      congr 3
      funext b
      rw [hf]
      by_cases z : b = j <;> simp [z]
    · have ne : a ≠ ad := fun z => by
        rw [z] at hk
        exact e (nd_ix t.nd hk hi)
      rw [upd_ne ne, t.row k a hk]
      congr 3
      funext b
      rw [hf, if_neg (fun z => e z.1)]
theorem Tab.ext {H0 H : Hp} {tb : Addr} {rs : List Addr} {m n : Nat} {f f' : Nat → Nat → Nat} (t : Tab H0 H tb rs m n f) (h : ∀ a b, a ≤ m → b ≤ n → f a b = f' a b) : Tab H0 H tb rs m n f' :=
  ⟨t.same, t.tb0, t.tbl, t.nd, t.len, t.fr, fun i ad e => by
    rw [t.row i ad e]
    congr 2
    refine List.map_congr_left fun b hb => ?_
    have h1 := (List.getElem?_eq_some_iff.mp e).1
    have h2 := t.len
    rw [h i b (by omega) (by have := List.mem_range.mp hb; omega)], t.ne⟩
section
variable {P : Program} {w : World} {K : Frag} {mg : Str → Option Value} {base : Heap}
abbrev s_commons : Stmt := topS 7
theorem sc_commons : FnScope ["one", "other", "found", "i", "j", "line"] ["one", "other"] (defScope s_commons) := ⟨rfl, rfl, rfl, by decide +kernel, rfl, by decide +kernel, by decide +kernel⟩
def spCommons : Sp := fun vs H Q _ => ∃ (a b : Addr) (s t : Text), vs = [.ref a, .ref b] ∧ H a = some (.lst (vT s)) ∧ H b = some (.lst (vT t)) ∧ s.length ≤ 100 ∧ t.length ≤ 100 ∧
  ∀ tb rs H', Tab H H' tb rs s.length t.length (ce s t) → Q (.ref tb) H'
theorem fl_rep {α : Type} (x : α) : ∀ k : Nat, (List.replicate k [x]).flatten = List.replicate k x
  | 0 => rfl
  | k + 1 => by
    show [x] ++ (List.replicate k [x]).flatten = _
    rw [fl_rep x k]
    rfl
theorem rep_row (n : Nat) : List.replicate (n + 1) (V.int 0) = rowV n fun _ => 0 := by
  apply List.ext_getElem?
  intro i
  rw [List.getElem?_replicate, List.getElem?_map]
  by_cases h : i < n + 1
  · rw [if_pos h, List.getElem?_range h]
    rfl
  · rw [if_neg h, List.getElem?_eq_none (by simp; omega)]
    rfl
theorem vT_get {s : Text} {i : Nat} (h : i < s.length) : (vT s)[i]? = some (vS s[i]) := by
  rw [List.getElem?_map, List.getElem?_eq_getElem h]
  rfl
theorem vT_len {s : Text} : (vT s).length = s.length := List.length_map ..
theorem ok_commons (A : FnAt K mg "commons" s_commons ["one", "other"]) (T : Txt K mg) : Dn P w K mg base CX0 1 "commons" ["one", "other"] spCommons := A.dn fun f fd F => by
  refine ok0 F sc_commons (fun vs H Q E h => ?_) (fun cdv A outer s H vs Q E hr h => ?_)
  · obtain ⟨a, b, s, t, rfl, _⟩ := h
    rfl
  obtain ⟨a, b, s, t, rfl, ha, hb, hs, ht, k⟩ := h
  refine ⟨_, (pss_cons (ps_setLc (i := 2) (own := [("line", 5)]) (by rfl) sc_commons.nd rfl rfl (sw_true rfl rfl rfl (by decide +kernel)) (pi_range1 (by rfl) T.f_range (pa_cons (pe_op op_add (pe_callB call_len (by rfl) T.f_len PySem.boot_len (pa_cons (pv 0) pa_nil)) pe_int) pa_nil)) (blkOk_by (own := [("line", 5)]) (N := ["one", "other", "found", "i", "j", "line"]) (sc := defScope s_commons) (by decide +kernel)) (fun _ _ _ _ _ => by exact (pg_name (i := 5) sc_commons.nd rfl (Or.inl rfl))) (fun _ _ _ _ _ => pts_nil) (fun _ _ _ _ _ => by exact (pe_op op_rep (pe_lst (pa_cons pe_int pa_nil)) (pe_op op_add (pe_callB (call_lenK K rfl) (by rfl) T.f_len PySem.boot_len (pa_cons (pv 1) pa_nil)) pe_int))))
      (pss_cons (ps_for PassesOwn.never rfl (pi_range3 (by rfl) T.f_range (pa_cons (pe_op op_sub (pe_callB call_len (by rfl) T.f_len PySem.boot_len (pa_cons (pv 0) pa_nil)) pe_int) (pa_cons (pe_un un_neg pe_int) (pa_cons (pe_un un_neg pe_int) pa_nil)))) (pg_name (i := 3) sc_commons.nd rfl (Or.inl rfl))
      (pss_one (ps_for PassesOwn.never rfl (pi_range3 (by rfl) T.f_range (pa_cons (pe_op op_sub (pe_callB call_len (by rfl) T.f_len PySem.boot_len (pa_cons (pv 1) pa_nil)) pe_int) (pa_cons (pe_un un_neg pe_int) (pa_cons (pe_un un_neg pe_int) pa_nil)))) (pg_name (i := 4) sc_commons.nd rfl (Or.inl rfl))
      (pss_one (ps_if (pt_cmpR op_eq (pe_ix ix_list (pv 0) (pv 3) (fun _ _ => rfl)) (pe_ix ix_list (pv 1) (pv 4) (fun _ _ => rfl)) (nomark _))
      (pss_one (ps_asg (pe_op op_add (pe_ix ix_list (pe_ix ix_list (pv 2) (pe_op op_add (pv 3) pe_int) (fun _ _ => rfl)) (pe_op op_add (pv 4) pe_int) (fun _ _ => rfl)) pe_int) (pg_sub (pe_ix ix_list (pv 2) (pv 3) (fun _ _ => rfl)) (pv 4) set_list)))
      (pss_one (ps_asg (pe_callB (call_max2 rfl) (by rfl) T.f_max (by decide +kernel) (pa_cons (pe_ix ix_list (pe_ix ix_list (pv 2) (pe_op op_add (pv 3) pe_int) (fun _ _ => rfl)) (pv 4) (fun _ _ => rfl)) (pa_cons (pe_ix ix_list (pe_ix ix_list (pv 2) (pv 3) (fun _ _ => rfl)) (pe_op op_add (pv 4) pe_int) (fun _ _ => rfl)) pa_nil))) (pg_sub (pe_ix ix_list (pv 2) (pv 3) (fun _ _ => rfl)) (pv 4) set_list))))))))
      (pss_one (ps_ret (pv 2))))), ?_⟩
  -- the rows of 0
  refine ⟨_, rfl, _, s.length, rfl, .inl ⟨_, .of ha, vT_len.symm⟩, _, _, rfl, rfl, _, rfl, by omega, by omega, fun D hD => lc_range (lo := 0) (n := s.length + 1)
    (fun i H' => Same H H' ∧ ∃ rs : List Addr, H' D = some (.lst (rs.map V.ref)) ∧ rs.Nodup ∧ rs.length = i ∧ (∀ ad ∈ rs, H ad = none ∧ H' ad = some (.lst (rowV t.length fun _ => 0))) ∧ D ∉ rs)
    ⟨Same.new (Same.refl H) hD, [], upd_same, List.nodup_nil, rfl, fun ad h => (nomatch h), fun h => nomatch h⟩ ?_ ?_⟩
  · rintro i H' hi ⟨s1, rs, hD', nd, hl, hrs, nD⟩
    refine ⟨rfl, yes ?_⟩
    refine ⟨by show 1 ≤ sizeLine; decide, fun q hq => ?_⟩
    have s2 : Same H (upd H' q (.lst [V.int 0])) := s1.new hq
    refine ⟨_, rfl, _, t.length, rfl, .inl ⟨_, .of (s2 _ _ hb), vT_len.symm⟩, _, _, rfl, rfl, ?_⟩
    refine ⟨q, _, _, rfl, rfl, upd_same, by omega, by omega, small' (by simp; omega), fun p hp => ?_⟩
    have e1 : (List.replicate ((t.length : Int) + 1).toNat [V.int 0]).flatten = rowV t.length fun _ => 0 := by
      rw [show ((t.length : Int) + 1).toNat = t.length + 1 from by omega, fl_rep, rep_row]
    rw [e1]
    have hp' : H' p = none := by
      by_cases z : p = q
      · rw [z]; exact hq
      · rw [upd_ne z] at hp; exact hp
    have pq : p ≠ q := fun z => by rw [z, upd_same] at hp; cases hp
    have pD : D ≠ p := fun z => by rw [z, hp'] at hD'; cases hD'
    have qD : D ≠ q := fun z => by rw [z, hq] at hD'; cases hD'
    have hp0 : H p = none := s1.free hp'
    refine ⟨rs.map V.ref, by rw [upd_ne pD, upd_ne qD]; exact hD', small (by rw [List.length_map]; omega), ?_, rs ++ [p], ?_, ?_, ?_, ?_, ?_⟩
    · exact (Same.new s2 hp).mut hD
    · rw [upd_same, List.map_append]
      rfl
    · rw [List.nodup_append]
      refine ⟨nd, by simp, fun x hx y hy z => ?_⟩
      have hy' : y = p := by simpa using hy
      have := (hrs x hx).2
      rw [z, hy', hp'] at this
      cases this
    · rw [List.length_append, hl]
      rfl
    · intro ad had
      rcases List.mem_append.mp had with had | had
      · obtain ⟨h1, h2⟩ := hrs ad had
        refine ⟨h1, ?_⟩
        have a1 : ad ≠ p := fun z => by rw [z, hp'] at h2; cases h2
        have a2 : ad ≠ q := fun z => by rw [z, hq] at h2; cases h2
        have a3 : ad ≠ D := fun z => nD (by rw [← z]; exact had)
        rw [upd_ne a3, upd_ne a1, upd_ne a2]
        exact h2
      · have e : ad = p := by simpa using had
        subst e
        exact ⟨hp0, by rw [upd_ne (Ne.symm pD), upd_same]⟩
    · intro h
      rcases List.mem_append.mp h with h | h
      · exact nD h
      · exact pD (by simpa using h)
  · rintro H1 ⟨s1, rs, hD', nd, hl, hrs, nD⟩
    have tab0 : Tab H H1 D rs s.length t.length fun a b => if s.length ≤ a then ce s t a b else 0 :=
      ⟨s1, hD, hD', nd, hl, fun ad h => (hrs ad h).1, fun i ad e => by
        rw [(hrs ad (List.mem_of_getElem? e)).2]
        congr 2
        refine List.map_congr_left fun b _ => ?_
        show V.int ((0 : Nat) : Int) = V.int ((if s.length ≤ i then ce s t i b else 0 : Nat) : Int)
        by_cases z : s.length ≤ i
        · rw [if_pos z, ce_end0 s t i b z]
        · rw [if_neg z], nD⟩
    -- the rows from the last on
    refine ⟨_, rfl, _, s.length, rfl, .inl ⟨_, .of (s1 _ _ ha), vT_len.symm⟩, _, _, rfl, rfl, _, rfl, _, rfl, _, _, _, s.length, rfl, ?_, ?_⟩
    · have z := RgC.neg (i := (s.length : Int) - 1) (j := -1) (by omega) (by omega) (by omega) (by omega)
      rw [show ((s.length : Int) - 1 - -1).toNat = s.length from by omega] at z
      exact z
    refine for_rangeC (fun q σ H' => (∃ v4 v5 v6, σ = [some (.ref a), some (.ref b), some (.ref D), v4, v5, v6]) ∧ Tab H H' D rs s.length t.length fun a b => if s.length - q ≤ a then ce s t a b else 0) ⟨⟨_, _, _, rfl⟩, tab0⟩ ?_ ?_
    · rintro q σ H2 hq ⟨⟨v4, v5, v6, rfl⟩, tab⟩
      obtain ⟨i, hi⟩ : ∃ i, i = s.length - 1 - q := ⟨_, rfl⟩
      have ei : (s.length : Int) - 1 + (q : Int) * (-1) = (i : Int) := by omega
      show gName 3 (.int ((s.length : Int) - 1 + (q : Int) * (-1))) _ _ _
      rw [ei]
      have tab1 : Tab H H2 D rs s.length t.length fun a b => if i < a then ce s t a b else if a = i ∧ t.length ≤ b then ce s t a b else 0 := tab.ext fun x y hx hy => by
        by_cases c1 : i < x
        · rw [if_pos (by omega), if_pos c1]
        · rw [if_neg (by omega), if_neg c1]
          split
          · rename_i c2
            rw [ce_end1 s t x y c2.2]
          · rfl
      refine ⟨_, rfl, _, t.length, rfl, .inl ⟨_, .of (tab.same _ _ hb), vT_len.symm⟩, _, _, rfl, rfl, _, rfl, _, rfl, _, _, _, t.length, rfl, ?_, ?_⟩
      · have z := RgC.neg (i := (t.length : Int) - 1) (j := -1) (by omega) (by omega) (by omega) (by omega)
        rw [show ((t.length : Int) - 1 - -1).toNat = t.length from by omega] at z
        exact z
      refine for_rangeC (fun r σ H' => (∃ v5 v6, σ = [some (.ref a), some (.ref b), some (.ref D), some (.int (i : Int)), v5, v6]) ∧ Tab H H' D rs s.length t.length fun a b => if i < a then ce s t a b else if a = i ∧ t.length - r ≤ b then ce s t a b else 0) ⟨⟨_, _, rfl⟩, tab1⟩ ?_ ?_
      · rintro r σ H3 hr3 ⟨⟨v5, v6, rfl⟩, tab⟩
        obtain ⟨j, hj⟩ : ∃ j, j = t.length - 1 - r := ⟨_, rfl⟩
        have ej : (t.length : Int) - 1 + (r : Int) * (-1) = (j : Int) := by omega
        show gName 4 (.int ((t.length : Int) - 1 + (r : Int) * (-1))) _ _ _
        rw [ej]
        have hi' : i < s.length := by omega
        have hj' : j < t.length := by omega
        have step := ce_step s t i j hi' hj'
        obtain ⟨ad, e1, e2, e3⟩ := tab.get (i := i) (by omega)
        obtain ⟨ad1, e4, e5, e6⟩ := tab.get (i := i + 1) (by omega)
        refine ⟨_, rfl, _, rfl, a, _, _, _, rfl, rfl, .of (tab.same _ _ ha), atI_nat (vT_get hi'), _, rfl, _, rfl, b, _, _, _, rfl, rfl, .of (tab.same _ _ hb), atI_nat (vT_get hj'), rfl, _, rfl, ?_⟩
        rw [vS_eq]
        have fin : ∀ v : Nat, v = ce s t i j → Tab H (upd H3 ad (.lst ((rowV t.length ((fun a b => if i < a then ce s t a b else if a = i ∧ t.length - r ≤ b then ce s t a b else 0) i)).set j (.int (v : Nat))))) D rs s.length t.length
            (fun a b => if i < a then ce s t a b else if a = i ∧ t.length - (r + 1) ≤ b then ce s t a b else 0) := fun v hv =>
          tab.set e1 (by omega) fun x y => by
            by_cases c : x = i ∧ y = j
            · rw [if_pos c, if_neg (by omega), if_pos (by omega), hv, c.1, c.2]
            · rw [if_neg c]
              by_cases c1 : i < x
              · rw [if_pos c1, if_pos c1]
              · rw [if_neg c1, if_neg c1]
                by_cases c2 : x = i ∧ t.length - r ≤ y
                · rw [if_pos c2, if_pos (by omega)]
                · rw [if_neg c2, if_neg (by omega)]
        refine if_of (fun c => ?_) (fun c => ?_)
        · have c := of_decide_eq_true c
          rw [if_pos c] at step
          refine ⟨_, rfl, _, rfl, _, _, rfl, rfl, D, _, _, _, rfl, rfl, .of tab.tbl, at_of (j := i + 1) (by omega) e5, _, rfl, _, _, rfl, rfl, ad1, _, _, _, rfl, rfl, .of e6, at_of (j := j + 1) (by omega) (rowV_get (by omega)), _, _, rfl, rfl, ?_⟩
          refine ⟨_, rfl, _, rfl, D, _, _, _, rfl, rfl, .of tab.tbl, atI_nat e2, _, rfl, ad, _, _, j, rfl, rfl, e3, ixN_nat rfl (by rw [rowV_len]; omega), ⟨_, _, rfl⟩, ?_⟩
          have z := fin (ce s t (i + 1) (j + 1) + 1) step.symm
          have e : V.int (((if i < i + 1 then ce s t (i + 1) (j + 1) else if i + 1 = i ∧ t.length - r ≤ j + 1 then ce s t (i + 1) (j + 1) else 0 : Nat) : Int) + 1) = V.int ((ce s t (i + 1) (j + 1) + 1 : Nat) : Int) := by
            rw [if_pos (by omega)]
            rfl
          dsimp only
          rw [e]
          exact z
        · have c := of_decide_eq_false c
          rw [if_neg c] at step
          refine ⟨_, rfl, _, rfl, _, _, rfl, rfl, D, _, _, _, rfl, rfl, .of tab.tbl, at_of (j := i + 1) (by omega) e5, _, rfl, ad1, _, _, _, rfl, rfl, .of e6, atI_nat (rowV_get (by omega)), ?_⟩
          refine ⟨_, rfl, _, rfl, D, _, _, _, rfl, rfl, .of tab.tbl, atI_nat e2, _, rfl, _, _, rfl, rfl, ad, _, _, _, rfl, rfl, .of e3, at_of (j := j + 1) (by omega) (rowV_get (by omega)), _, _, rfl, ?_⟩
          refine ⟨_, rfl, _, rfl, D, _, _, _, rfl, rfl, .of tab.tbl, atI_nat e2, _, rfl, ad, _, _, j, rfl, rfl, e3, ixN_nat rfl (by rw [rowV_len]; omega), ⟨_, _, rfl⟩, ?_⟩
          have z := fin _ step.symm
          have e : (if ((if i < i then ce s t i (j + 1) else if i = i ∧ t.length - r ≤ j + 1 then ce s t i (j + 1) else 0 : Nat) : Int) > ((if i < i + 1 then ce s t (i + 1) j else if i + 1 = i ∧ t.length - r ≤ j then ce s t (i + 1) j else 0 : Nat) : Int) then
              ((if i < i then ce s t i (j + 1) else if i = i ∧ t.length - r ≤ j + 1 then ce s t i (j + 1) else 0 : Nat) : Int) else ((if i < i + 1 then ce s t (i + 1) j else if i + 1 = i ∧ t.length - r ≤ j then ce s t (i + 1) j else 0 : Nat) : Int)) =
              ((Nat.max (ce s t (i + 1) j) (ce s t i (j + 1)) : Nat) : Int) := by
            rw [if_neg (Nat.lt_irrefl i), if_pos (show i = i ∧ t.length - r ≤ j + 1 from ⟨rfl, by omega⟩), if_pos (Nat.lt_succ_self i), max_nat]
          show Tab H (upd H3 ad (.lst (List.set _ j (V.int (if ((if i < i then ce s t i (j + 1) else if i = i ∧ t.length - r ≤ j + 1 then ce s t i (j + 1) else 0 : Nat) : Int) > ((if i < i + 1 then ce s t (i + 1) j else if i + 1 = i ∧ t.length - r ≤ j then ce s t (i + 1) j else 0 : Nat) : Int) then
              ((if i < i then ce s t i (j + 1) else if i = i ∧ t.length - r ≤ j + 1 then ce s t i (j + 1) else 0 : Nat) : Int) else ((if i < i + 1 then ce s t (i + 1) j else if i + 1 = i ∧ t.length - r ≤ j then ce s t (i + 1) j else 0 : Nat) : Int)))))) _ _ _ _ _
          rw [e]
          exact z
      · rintro σ H3 ⟨⟨v5, v6, rfl⟩, tab⟩
        refine ⟨⟨_, _, _, rfl⟩, tab.ext fun x y hx hy => ?_⟩
        by_cases c1 : i < x
        · rw [if_pos c1, if_pos (by omega)]
        · rw [if_neg c1]
          by_cases c2 : x = i
          · rw [if_pos ⟨c2, by omega⟩, if_pos (by omega)]
          · rw [if_neg (fun z => c2 z.1), if_neg (by omega)]
    · rintro σ H2 ⟨⟨v4, v5, v6, rfl⟩, tab⟩
      refine ⟨_, rfl, k D rs H2 (tab.ext fun x y hx hy => ?_)⟩
      rw [if_pos (by omega)]
end
end Lp
end
section
set_option maxHeartbeats 4000000
/-! ### plain Lean: what two patches cost one behind the other; rows of marks, changes -/
namespace Lp
open Vasedc Vaseda
/-- how many lines a patch goes over on its first, its second side -/
def nB (p : Patch) : Nat := (p.filter fun o => !isPut o).length
def nA (p : Patch) : Nat := (p.filter fun o => !isDrop o).length
theorem pFrom_sides (a b : Text) : ∀ (m i j : Nat), i ≤ a.length → j ≤ b.length → (a.length - i) + (b.length - j) = m → nB (pFrom a b i j) = a.length - i ∧ nA (pFrom a b i j) = b.length - j
  | m, i, j, hi, hj, hm => by
    by_cases h1 : i < a.length
    · by_cases h2 : j < b.length
      · rw [pFrom_step a b i j h1 h2]
        by_cases c : a[i] = b[j]
        · rw [if_pos c]
          obtain ⟨k1, k2⟩ := pFrom_sides a b (m - 2) (i + 1) (j + 1) (by omega) (by omega) (by omega)
          exact ⟨by show nB (pFrom a b (i + 1) (j + 1)) + 1 = _; omega, by show nA (pFrom a b (i + 1) (j + 1)) + 1 = _; omega⟩
        · rw [if_neg c]
          by_cases d : ce a b i (j + 1) ≤ ce a b (i + 1) j
          · rw [if_pos d]
            obtain ⟨k1, k2⟩ := pFrom_sides a b (m - 1) (i + 1) j (by omega) (by omega) (by omega)
            exact ⟨by show nB (pFrom a b (i + 1) j) + 1 = _; omega, by show nA (pFrom a b (i + 1) j) = _; omega⟩
          · rw [if_neg d]
            obtain ⟨k1, k2⟩ := pFrom_sides a b (m - 1) i (j + 1) (by omega) (by omega) (by omega)
            exact ⟨by show nB (pFrom a b i (j + 1)) = _; omega, by show nA (pFrom a b i (j + 1)) + 1 = _; omega⟩
      · rw [pFrom_end1 a b i j (by omega)]
        have e1 : ∀ l : Text, nB (l.map Op.drop) = l.length := fun l => by
          induction l with
          | nil => rfl
          | cons x l ih => show nB (l.map Op.drop) + 1 = _; rw [ih]; rfl
        have e2 : ∀ l : Text, nA (l.map Op.drop) = 0 := fun l => by
          induction l with
          | nil => rfl
          | cons x l ih => exact ih
        rw [e1, e2, List.length_drop]
        omega
    · rw [pFrom_end0 a b i j (by omega)]
      have e1 : ∀ l : Text, nB (l.map Op.put) = 0 := fun l => by
        induction l with
        | nil => rfl
        | cons x l ih => exact ih
      have e2 : ∀ l : Text, nA (l.map Op.put) = l.length := fun l => by
        induction l with
        | nil => rfl
        | cons x l ih => show nA (l.map Op.put) + 1 = _; rw [ih]; rfl
      rw [e1, e2, List.length_drop]
      omega
  termination_by m i j => (a.length - i) + (b.length - j)
theorem patch_nB (a b : Text) : nB (Vasedc.patch a b) = a.length := (pFrom_sides a b _ 0 0 (Nat.zero_le _) (Nat.zero_le _) rfl).1
theorem patch_nA (a b : Text) : nA (Vasedc.patch a b) = b.length := (pFrom_sides a b _ 0 0 (Nat.zero_le _) (Nat.zero_le _) rfl).2
theorem len_le (p : Patch) : p.length ≤ nB p + nA p := by
  induction p with
  | nil => exact Nat.le_refl 0
  | cons o p ih =>
    cases o with
    | keep x => show p.length + 1 ≤ (nB p + 1) + (nA p + 1); omega
    | drop x => show p.length + 1 ≤ (nB p + 1) + nA p; omega
    | put x => show p.length + 1 ≤ nB p + (nA p + 1); omega
theorem patch_len (a b : Text) : (Vasedc.patch a b).length ≤ a.length + b.length := by
  have h := len_le (Vasedc.patch a b)
  rw [patch_nB, patch_nA] at h
  exact h

/-! one behind the other -/
/-- of the lines between: whether they came by the first, whether they go by the second -/
def cameOf (p : Patch) : List Bool := (p.filter fun o => !isDrop o).map isPut
def goesOf (q : Patch) : List Bool := (q.filter fun o => !isPut o).map isDrop
def diffs (l : List (Bool × Bool)) : Nat := (l.filter fun x => x.1 != x.2).length
def behind (p q : Patch) : Nat := diffs ((cameOf p).zip (goesOf q)) + (p.filter isDrop).length + (q.filter isPut).length
theorem behind_drop (x : Line) (p q : Patch) : behind (.drop x :: p) q = behind p q + 1 := by
  have h : behind (.drop x :: p) q = diffs ((cameOf p).zip (goesOf q)) + ((p.filter isDrop).length + 1) + (q.filter isPut).length := rfl
  have h2 : behind p q = diffs ((cameOf p).zip (goesOf q)) + (p.filter isDrop).length + (q.filter isPut).length := rfl
  omega
theorem behind_put (y : Line) (p q : Patch) : behind p (.put y :: q) = behind p q + 1 := by
  have h : behind p (.put y :: q) = diffs ((cameOf p).zip (goesOf q)) + (p.filter isDrop).length + ((q.filter isPut).length + 1) := rfl
  have h2 : behind p q = diffs ((cameOf p).zip (goesOf q)) + (p.filter isDrop).length + (q.filter isPut).length := rfl
  omega
theorem cost_after : ∀ (f : Nat) (p q : Patch), p.length + q.length < f → nA p = nB q → costOf (after_ f p q) = behind p q
  | 0, p, q, h, _ => by omega
  | f + 1, .drop x :: p, q, h, e => by
    rw [behind_drop]
    have h' : p.length + 1 + q.length < f + 1 := h
    have ih := cost_after f p q (by omega) e
    have e1 : after_ (f + 1) (.drop x :: p) q = .drop x :: after_ f p q := by cases q <;> rfl
    rw [e1]
    show costOf (after_ f p q) + 1 = _
    rw [ih]
  | f + 1, [], [], _, _ => rfl
  | f + 1, [], .put y :: q, h, e => by
    rw [behind_put]
    have h' : 0 + (q.length + 1) < f + 1 := h
    have ih := cost_after f [] q (by show 0 + q.length < f; omega) e
    show costOf (after_ f [] q) + 1 = _
    rw [ih]
  | f + 1, [], .keep y :: q, _, e => by
    have e' : 0 = nB q + 1 := e
    omega
  | f + 1, [], .drop y :: q, _, e => by
    have e' : 0 = nB q + 1 := e
    omega
  | f + 1, .keep x :: p, [], _, e => by
    have e' : nA p + 1 = 0 := e
    omega
  | f + 1, .put x :: p, [], _, e => by
    have e' : nA p + 1 = 0 := e
    omega
  | f + 1, .keep x :: p, .put y :: q, h, e => by
    rw [behind_put]
    have h' : p.length + 1 + (q.length + 1) < f + 1 := h
    have ih := cost_after f (.keep x :: p) q (by show p.length + 1 + q.length < f; omega) e
    show costOf (after_ f (.keep x :: p) q) + 1 = _
    rw [ih]
  | f + 1, .put x :: p, .put y :: q, h, e => by
    rw [behind_put]
    have h' : p.length + 1 + (q.length + 1) < f + 1 := h
    have ih := cost_after f (.put x :: p) q (by show p.length + 1 + q.length < f; omega) e
    show costOf (after_ f (.put x :: p) q) + 1 = _
    rw [ih]
  | f + 1, .keep x :: p, .keep y :: q, h, e => by
    have h' : p.length + 1 + (q.length + 1) < f + 1 := h
    have ih := cost_after f p q (by omega) (by have e' : nA p + 1 = nB q + 1 := e; omega)
    show costOf (after_ f p q) = _
    rw [ih]
    rfl
  | f + 1, .keep x :: p, .drop y :: q, h, e => by
    have h' : p.length + 1 + (q.length + 1) < f + 1 := h
    have ih := cost_after f p q (by omega) (by have e' : nA p + 1 = nB q + 1 := e; omega)
    show costOf (after_ f p q) + 1 = (diffs ((cameOf p).zip (goesOf q)) + 1) + (p.filter isDrop).length + (q.filter isPut).length
    rw [ih]
    show diffs _ + _ + _ + 1 = _
    omega
  | f + 1, .put x :: p, .keep y :: q, h, e => by
    have h' : p.length + 1 + (q.length + 1) < f + 1 := h
    have ih := cost_after f p q (by omega) (by have e' : nA p + 1 = nB q + 1 := e; omega)
    show costOf (after_ f p q) + 1 = (diffs ((cameOf p).zip (goesOf q)) + 1) + (p.filter isDrop).length + (q.filter isPut).length
    rw [ih]
    show diffs _ + _ + _ + 1 = _
    omega
  | f + 1, .put x :: p, .drop y :: q, h, e => by
    have h' : p.length + 1 + (q.length + 1) < f + 1 := h
    have ih := cost_after f p q (by omega) (by have e' : nA p + 1 = nB q + 1 := e; omega)
    show costOf (after_ f p q) = _
    rw [ih]
    rfl
theorem cost_both (p q : Patch) (e : nA p = nB q) : costOf (Vasedc.both p q) = behind p q := cost_after _ p q (Nat.lt_succ_self _) e

/-! rows of marks -/
mutual
def rowA (k : Text) : Patch → List Text × List Patch
  | [] => ([k], [])
  | .keep x :: r => rowA (k ++ [x]) r
  | .drop x :: r => (k :: (rowB [.drop x] r).1, (rowB [.drop x] r).2)
  | .put x :: r => (k :: (rowB [.put x] r).1, (rowB [.put x] r).2)
def rowB (c : Patch) : Patch → List Text × List Patch
  | [] => ([[]], [c])
  | .keep x :: r => ((rowA [x] r).1, c :: (rowA [x] r).2)
  | .drop x :: r => rowB (c ++ [.drop x]) r
  | .put x :: r => rowB (c ++ [.put x]) r
end
/-- the program's state: kept rows, other rows, whether the last mark was kept -/
structure Rows where
  ks : List Text
  os : List Patch
  was : Bool
def setLast {α : Type} (l : List α) (y : α) : List α := l.set (l.length - 1) y
def addKeep (s : Rows) (x : Line) : Rows :=
  let ks := s.ks ++ (if s.was = true then [] else [[]])
  ⟨setLast ks (ks.getLastD [] ++ [x]), s.os, true⟩
def addOther (s : Rows) (o : Op) : Rows :=
  let os := s.os ++ (if s.was = true then [[]] else [])
  ⟨s.ks, setLast os (os.getLastD [] ++ [o]), false⟩
def rowStep (s : Rows) (o : Op) : Rows := if isKeep o = true then addKeep s (lineIn o) else addOther s o
def rowRun (p : Patch) : Rows := p.foldl rowStep ⟨[[]], [], true⟩
def rowEnd (s : Rows) : List Text × List Patch := (s.ks ++ (if s.was = true then [] else [[]]), s.os)
theorem setLast_snoc {α : Type} (l : List α) (x y : α) : setLast (l ++ [x]) y = l ++ [y] := by
  unfold setLast
  rw [List.length_append, List.length_singleton, Nat.add_sub_cancel, List.set_append_right _ _ (Nat.le_refl _), Nat.sub_self]
  rfl
theorem last_snoc {α : Type} (l : List α) (x d : α) : (l ++ [x]).getLastD d = x := by simp
theorem keep_true (ks : List Text) (k : Text) (os : List Patch) (x : Line) : addKeep ⟨ks ++ [k], os, true⟩ x = ⟨ks ++ [k ++ [x]], os, true⟩ := by
  simp [addKeep, setLast_snoc]
theorem keep_false (ks : List Text) (os : List Patch) (x : Line) : addKeep ⟨ks, os, false⟩ x = ⟨ks ++ [[x]], os, true⟩ := by
  simp [addKeep, setLast_snoc]
theorem other_true (ks : List Text) (os : List Patch) (o : Op) : addOther ⟨ks, os, true⟩ o = ⟨ks, os ++ [[o]], false⟩ := by
  simp [addOther, setLast_snoc]
theorem other_false (ks : List Text) (os : List Patch) (c : Patch) (o : Op) : addOther ⟨ks, os ++ [c], false⟩ o = ⟨ks, os ++ [c ++ [o]], false⟩ := by
  simp [addOther, setLast_snoc]
mutual
theorem run_A : ∀ (p : Patch) (ks : List Text) (k : Text) (os : List Patch), rowEnd (p.foldl rowStep ⟨ks ++ [k], os, true⟩) = (ks ++ (rowA k p).1, os ++ (rowA k p).2)
  | [], ks, k, os => by simp [rowEnd, rowA]
  | .keep x :: r, ks, k, os => by
    rw [List.foldl_cons, show rowStep ⟨ks ++ [k], os, true⟩ (.keep x) = addKeep ⟨ks ++ [k], os, true⟩ x from rfl, keep_true, run_A r, rowA]
  | .drop x :: r, ks, k, os => by
    rw [List.foldl_cons, show rowStep ⟨ks ++ [k], os, true⟩ (.drop x) = addOther ⟨ks ++ [k], os, true⟩ (.drop x) from rfl, other_true, run_B r, rowA]
    simp
  | .put x :: r, ks, k, os => by
    rw [List.foldl_cons, show rowStep ⟨ks ++ [k], os, true⟩ (.put x) = addOther ⟨ks ++ [k], os, true⟩ (.put x) from rfl, other_true, run_B r, rowA]
    simp
theorem run_B : ∀ (p : Patch) (ks : List Text) (os : List Patch) (c : Patch), rowEnd (p.foldl rowStep ⟨ks, os ++ [c], false⟩) = (ks ++ (rowB c p).1, os ++ (rowB c p).2)
  | [], ks, os, c => by simp [rowEnd, rowB]
  | .keep x :: r, ks, os, c => by
    rw [List.foldl_cons, show rowStep ⟨ks, os ++ [c], false⟩ (.keep x) = addKeep ⟨ks, os ++ [c], false⟩ x from rfl, keep_false, run_A r, rowB]
    simp
  | .drop x :: r, ks, os, c => by
    rw [List.foldl_cons, show rowStep ⟨ks, os ++ [c], false⟩ (.drop x) = addOther ⟨ks, os ++ [c], false⟩ (.drop x) from rfl, other_false, run_B r, rowB]
  | .put x :: r, ks, os, c => by
    rw [List.foldl_cons, show rowStep ⟨ks, os ++ [c], false⟩ (.put x) = addOther ⟨ks, os ++ [c], false⟩ (.put x) from rfl, other_false, run_B r, rowB]
end
/-- the program's rows -/
def rowsOf (p : Patch) : List Text × List Patch := rowEnd (rowRun p)
theorem rowsOf_A (p : Patch) : rowsOf p = rowA [] p := by
  have h := run_A p [] [] []
  rw [List.nil_append] at h
  exact h.trans (by simp)
mutual
theorem rowA_head : ∀ (p : Patch) (k : Text), ∃ ks, (rowA k p).1 = (k ++ takeKeeps p) :: ks ∧ (rowA k p).2.length = ks.length
  | [], k => ⟨[], by simp [rowA, takeKeeps], rfl⟩
  | .keep x :: r, k => by
    obtain ⟨ks, h1, h2⟩ := rowA_head r (k ++ [x])
    refine ⟨ks, ?_, by rw [rowA]; exact h2⟩
    have e : takeKeeps (.keep x :: r) = x :: takeKeeps r := rfl
    rw [rowA, h1, e, List.append_assoc]
    rfl
  | .drop x :: r, k => ⟨(rowB [.drop x] r).1, by
    have e : takeKeeps (.drop x :: r) = [] := rfl
    rw [rowA, e, List.append_nil], by rw [rowA]; exact rowB_len r _⟩
  | .put x :: r, k => ⟨(rowB [.put x] r).1, by
    have e : takeKeeps (.put x :: r) = [] := rfl
    rw [rowA, e, List.append_nil], by rw [rowA]; exact rowB_len r _⟩
theorem rowB_len : ∀ (p : Patch) (c : Patch), (rowB c p).2.length = (rowB c p).1.length
  | [], c => rfl
  | .keep x :: r, c => by
    obtain ⟨ks, h1, h2⟩ := rowA_head r [x]
    simp [rowB, h1, h2]
  | .drop x :: r, c => by
    rw [rowB]
    exact rowB_len r _
  | .put x :: r, c => by
    rw [rowB]
    exact rowB_len r _
end
theorem rowB_eq : ∀ (r : Patch) (c : Patch), rowB c r = ((rowA [] (r.dropWhile fun o => !isKeep o)).1, (c ++ r.takeWhile fun o => !isKeep o) :: (rowA [] (r.dropWhile fun o => !isKeep o)).2)
  | [], c => by simp [rowB, rowA]
  | .keep x :: r, c => by simp [rowB, rowA, isKeep]
  | .drop x :: r, c => by
    rw [rowB, rowB_eq r]
    simp [isKeep]
  | .put x :: r, c => by
    rw [rowB, rowB_eq r]
    simp [isKeep]
def outsOf (o : Patch) : Text := (o.filter isDrop).map lineIn
def insOf (o : Patch) : Text := (o.filter isPut).map lineIn
def mapRows : Nat → List Text → List Patch → List Hunk
  | n, k0 :: k1 :: ks, o :: os => ⟨n + k0.length, k0.drop (k0.length - 2), outsOf o, insOf o, k1.take 2⟩ :: mapRows (n + k0.length + (outsOf o).length) (k1 :: ks) os
  | _, _, _ => []
theorem mapRows_nil (n : Nat) (ks : List Text) : mapRows n ks [] = [] := by
  cases ks with
  | nil => rfl
  | cons k ks => cases ks <;> rfl
theorem hunks_step (f n : Nat) (k : Text) (o : Op) (r : Patch) (ho : isKeep o = false) (ih : ∀ (p : Patch) (n : Nat) (k : Text), p.length < f → hunksBy f (n + k.length) k p = mapRows n (rowA k p).1 (rowA k p).2) (h : (o :: r).length < f + 1) :
    hunksBy (f + 1) (n + k.length) k (o :: r) = mapRows n (k :: (rowB [o] r).1) (rowB [o] r).2 := by
  have e1 : (o :: r).takeWhile (fun o => !isKeep o) = o :: r.takeWhile fun o => !isKeep o := by simp [ho]
  have e2 : (o :: r).dropWhile (fun o => !isKeep o) = r.dropWhile fun o => !isKeep o := by simp [ho]
  have hl : (r.dropWhile fun o => !isKeep o).length ≤ r.length := (List.dropWhile_sublist _).length_le
  have h' : r.length + 1 < f + 1 := h
  rw [rowB_eq]
  obtain ⟨ks, h1, h2⟩ := rowA_head (r.dropWhile fun o => !isKeep o) []
  have ih' := ih (r.dropWhile fun o => !isKeep o) (n + k.length + (outsOf (o :: r.takeWhile fun o => !isKeep o)).length) [] (by omega)
  rw [h1] at ih' ⊢
  show hunksBy (f + 1) (n + k.length) k (o :: r) = ⟨n + k.length, k.drop (k.length - 2), outsOf ([o] ++ r.takeWhile fun o => !isKeep o), insOf ([o] ++ r.takeWhile fun o => !isKeep o), ([] ++ takeKeeps (r.dropWhile fun o => !isKeep o)).take 2⟩ :: mapRows _ _ _
  rw [List.nil_append] at ih' ⊢
  rw [show n + k.length + (outsOf (o :: r.takeWhile fun o => !isKeep o)).length + ([] : Text).length = n + k.length + (outsOf (o :: r.takeWhile fun o => !isKeep o)).length from rfl] at ih'
  rw [show ([o] ++ r.takeWhile fun o => !isKeep o) = o :: r.takeWhile fun o => !isKeep o from rfl, ← ih']
  cases o with
  | keep x => cases ho
  | drop x =>
    show (let c := (Op.drop x :: r).takeWhile (fun o => !isKeep o); let r2 := (Op.drop x :: r).dropWhile fun o => !isKeep o; let old := (c.filter isDrop).map lineIn
      (⟨n + k.length, k.drop (k.length - CONTEXT), old, (c.filter isPut).map lineIn, (takeKeeps r2).take CONTEXT⟩ : Hunk) :: hunksBy f (n + k.length + old.length) [] r2) = _
    rw [e1, e2]
    rfl
  | put x =>
    show (let c := (Op.put x :: r).takeWhile (fun o => !isKeep o); let r2 := (Op.put x :: r).dropWhile fun o => !isKeep o; let old := (c.filter isDrop).map lineIn
      (⟨n + k.length, k.drop (k.length - CONTEXT), old, (c.filter isPut).map lineIn, (takeKeeps r2).take CONTEXT⟩ : Hunk) :: hunksBy f (n + k.length + old.length) [] r2) = _
    rw [e1, e2]
    rfl
theorem hunksBy_rows : ∀ (f : Nat) (p : Patch) (n : Nat) (k : Text), p.length < f → hunksBy f (n + k.length) k p = mapRows n (rowA k p).1 (rowA k p).2
  | f + 1, [], n, k, _ => rfl
  | f + 1, .keep x :: r, n, k, h => by
    have ih := hunksBy_rows f r n (k ++ [x]) (by have h' : r.length + 1 < f + 1 := h; omega)
    rw [rowA, ← ih, List.length_append]
    rfl
  | f + 1, .drop x :: r, n, k, h => by
    rw [rowA]
    exact hunks_step f n k (.drop x) r rfl (hunksBy_rows f) h
  | f + 1, .put x :: r, n, k, h => by
    rw [rowA]
    exact hunks_step f n k (.put x) r rfl (hunksBy_rows f) h
theorem hunks_rows (p : Patch) : Vasedc.hunks p = mapRows 0 (rowsOf p).1 (rowsOf p).2 := by
  rw [rowsOf_A]
  exact hunksBy_rows _ p 0 [] (Nat.lt_succ_self _)
theorem rowsOf_len (p : Patch) : (rowsOf p).1.length = (rowsOf p).2.length + 1 := by
  rw [rowsOf_A]
  obtain ⟨ks, h1, h2⟩ := rowA_head p []
  rw [h1, h2]
  rfl
end Lp
end
section
set_option maxHeartbeats 4000000
/-! ### plain Lean: the place of a change -/
namespace Lp
open Vasedc Vaseda
def dst (w i : Nat) : Nat := (i - w) + (w - i)
def plF (lo n want d : Nat) : List Nat := (if decide (d ≤ want) && (decide (lo ≤ want - d) && decide (want - d ≤ n)) then [want - d] else []) ++ (if decide (0 < d) && (decide (lo ≤ want + d) && decide (want + d ≤ n)) then [want + d] else [])
theorem places_eq (lo n want : Nat) : placesBy lo n want = (List.range (n + want + 1)).flatMap (plF lo n want) := rfl
theorem plF_mem {lo n want d x : Nat} (h : x ∈ plF lo n want d) : lo ≤ x ∧ x ≤ n ∧ dst want x = d := by
  unfold plF at h
  unfold dst
  rcases List.mem_append.mp h with h | h
  · split at h
    · rename_i c
      simp only [Bool.and_eq_true, decide_eq_true_eq] at c
      have := List.mem_singleton.mp h
      omega
    · cases h
  · split at h
    · rename_i c
      simp only [Bool.and_eq_true, decide_eq_true_eq] at c
      have := List.mem_singleton.mp h
      omega
    · cases h
theorem find_none {p : Nat → Bool} {lo n want m : Nat} (hn : n ≤ m) (h : ∀ i, lo ≤ i → i ≤ m → p i = false) : (placesBy lo n want).find? p = none := by
  rw [places_eq, List.find?_eq_none]
  intro x hx
  obtain ⟨d, _, hd⟩ := List.mem_flatMap.mp hx
  obtain ⟨h1, h2, _⟩ := plF_mem hd
  rw [h x h1 (by omega)]
  exact Bool.false_ne_true
theorem find_some {p : Nat → Bool} {lo n want m i : Nat} (hn : n ≤ m) (hm : ∀ i, lo ≤ i → i ≤ m → p i = true → i ≤ n) (h1 : lo ≤ i) (h2 : i ≤ m) (hp : p i = true)
    (hmin : ∀ j, lo ≤ j → j ≤ m → p j = true → ¬ (dst want j < dst want i ∨ (dst want j = dst want i ∧ j < i))) : (placesBy lo n want).find? p = some i := by
  have hin := hm i h1 h2 hp
  rw [places_eq, List.find?_flatMap]
  have hd0 : dst want i < n + want + 1 := by unfold dst; omega
  have es : List.range (n + want + 1) = List.range (dst want i) ++ dst want i :: (List.range (n + want + 1)).drop (dst want i + 1) := by
    have e1 : (List.range (n + want + 1)).take (dst want i) = List.range (dst want i) := by
      rw [List.take_range, Nat.min_eq_left (Nat.le_of_lt hd0)]
    have e2 : (List.range (n + want + 1))[dst want i]'(by simpa using hd0) = dst want i := by simp
    rw [← e1]
    conv => lhs; rw [← List.take_append_drop (dst want i) (List.range (n + want + 1)), List.drop_eq_getElem_cons (by simpa using hd0), e2]
  rw [es, List.findSome?_append]
  have e0 : (List.range (dst want i)).findSome? (fun d => (plF lo n want d).find? p) = none := by
    rw [List.findSome?_eq_none_iff]
    intro d hd
    rw [List.find?_eq_none]
    intro x hx px
    obtain ⟨h3, h4, h5⟩ := plF_mem hx
    have := List.mem_range.mp hd
    exact hmin x h3 (by omega) px (.inl (by omega))
  rw [e0, Option.none_or, List.findSome?_cons]
  have e1 : (plF lo n want (dst want i)).find? p = some i := by
    by_cases c : i ≤ want
    · unfold plF
      have ed : want - dst want i = i := by unfold dst; omega
      rw [if_pos (by simp only [Bool.and_eq_true, decide_eq_true_eq]; unfold dst; omega), ed]
      show List.find? p (i :: _) = _
      rw [List.find?_cons_of_pos hp]
    · have ei : want + dst want i = i := by unfold dst; omega
      unfold plF
      rw [List.find?_append, if_pos (c := (decide (0 < dst want i) && (decide (lo ≤ want + dst want i) && decide (want + dst want i ≤ n))) = true) (by simp only [Bool.and_eq_true, decide_eq_true_eq]; unfold dst; omega), ei, List.find?_cons_of_pos hp]
      have : List.find? p (if (decide (dst want i ≤ want) && (decide (lo ≤ want - dst want i) && decide (want - dst want i ≤ n))) = true then [want - dst want i] else []) = none := by
        split
        · rename_i cc
          simp only [Bool.and_eq_true, decide_eq_true_eq] at cc
          rw [List.find?_eq_none]
          intro x hx px
          have hx := List.mem_singleton.mp hx
          refine hmin x (by omega) (by omega) px (.inr ⟨?_, ?_⟩)
          · rw [hx]; unfold dst at cc ⊢; omega
          · rw [hx]; unfold dst at cc ⊢; omega
        · rfl
      rw [this]
      rfl
  rw [e1]
theorem stands_le {t : Text} {h : Hunk} {i : Nat} (hs : standsAt t h i = true) (hi : i ≤ t.length) : i + h.old.length ≤ t.length := by
  unfold standsAt at hs
  simp only [Bool.and_eq_true, decide_eq_true_eq, beq_iff_eq] at hs
  obtain ⟨h1, h2⟩ := hs
  have h3 := congrArg List.length h2
  simp only [List.length_take, List.length_drop, List.length_append] at h3
  omega
/-- one step of the drift -/
theorem drift_cons (t : Text) (k at_ : Nat) (d : Int) (h : Hunk) (r : List Hunk) : driftBy t k at_ d (h :: r) = match (placesBy (at_ + h.ahead.length) (t.length - h.old.length) ((h.at_ : Int) + d).toNat).find? (standsAt t h) with
      | none => .error k
      | some i => (driftBy t (k + 1) (i + h.old.length) ((i : Int) - (h.at_ : Int)) r).map fun l => (t.drop at_).take (i - at_) ++ (h.new ++ l) := rfl
/-- what comes behind lines that came -/
def afterL (acc : Text) : Except Nat Text → Except Nat Text
  | .ok w => .ok (acc ++ w)
  | .error k => .error k
theorem afterL_nil (x : Except Nat Text) : afterL [] x = x := by cases x <;> rfl
theorem afterL_map (acc u v : Text) (x : Except Nat Text) : afterL acc (x.map fun l => u ++ (v ++ l)) = afterL (acc ++ u ++ v) x := by
  cases x with
  | ok w =>
    show Except.ok (acc ++ (u ++ (v ++ w))) = Except.ok (acc ++ u ++ v ++ w)
    simp
  | error k => rfl
theorem mapRows_bound {N : Nat} : ∀ (n : Nat) (ks : List Text) (os : List Patch), (∀ k ∈ ks, k.length ≤ N) → (∀ o ∈ os, o.length ≤ N) → ∀ h ∈ mapRows n ks os, h.ahead.length ≤ N ∧ h.old.length ≤ N ∧ h.new.length ≤ N ∧ h.rest.length ≤ N
  | n, k0 :: k1 :: ks, o :: os, hk, ho, h, hm => by
    have hm : h ∈ (⟨n + k0.length, k0.drop (k0.length - 2), outsOf o, insOf o, k1.take 2⟩ : Hunk) :: mapRows (n + k0.length + (outsOf o).length) (k1 :: ks) os := hm
    rcases List.mem_cons.mp hm with e | hm
    · have a0 := hk k0 (by simp)
      have a1 := hk k1 (by simp)
      have a2 := ho o (by simp)
      have a3 := List.length_filter_le isDrop o
      have a4 := List.length_filter_le isPut o
      subst e
      refine ⟨?_, ?_, ?_, ?_⟩
      · show (k0.drop (k0.length - 2)).length ≤ N
        rw [List.length_drop]
        omega
      · show ((o.filter isDrop).map lineIn).length ≤ N
        rw [List.length_map]
        omega
      · show ((o.filter isPut).map lineIn).length ≤ N
        rw [List.length_map]
        omega
      · show (k1.take 2).length ≤ N
        rw [List.length_take]
        omega
    · exact mapRows_bound _ _ _ (fun k h => hk k (List.mem_cons_of_mem _ h)) (fun o h => ho o (List.mem_cons_of_mem _ h)) h hm
  | n, [], [], _, _, h, hm => by cases hm
  | n, [], _ :: _, _, _, h, hm => by cases hm
  | n, [_], [], _, _, h, hm => by cases hm
  | n, [_], _ :: _, _, _, h, hm => by cases hm
  | n, _ :: _ :: _, [], _, _, h, hm => by cases hm
theorem mapRows_len : ∀ (n : Nat) (ks : List Text) (os : List Patch), (mapRows n ks os).length ≤ os.length
  | n, k0 :: k1 :: ks, o :: os => Nat.succ_le_succ (mapRows_len _ (k1 :: ks) os)
  | n, [], [] => Nat.zero_le _
  | n, [], _ :: _ => Nat.zero_le _
  | n, [_], [] => Nat.zero_le _
  | n, [_], _ :: _ => Nat.zero_le _
  | n, _ :: _ :: _, [] => Nat.zero_le _
end Lp
end
section
set_option maxHeartbeats 4000000
/-! ### plain Lean: a text read byte by byte -/
namespace Lp
open Vaseda VasedBase
def rdLoop : Bytes → Text → Line → Option (Text × Line)
  | [], f, l => some (f, l)
  | c :: r, f, l => if c = 10 then rdLoop r (f ++ [l]) [] else if isLetter c = true ∧ l.length < 16 then rdLoop r f (l ++ [c]) else none
def rdEnd (x : Text × Line) : Option Text := if x.2 = [] ∧ x.1.length ≤ 24 then some x.1 else none
theorem split_long : ∀ (n : Nat) (b : Bytes) (l : Line) (t : Text), splitBy n b l = some t → l ≠ [] → ∃ x t', t = x :: t' ∧ l.length ≤ x.length
  | 0, _, _, _, h, _ => by cases h
  | n + 1, [], l, t, h, hl => by
    cases l with
    | nil => exact absurd rfl hl
    | cons x l => cases h
  | n + 1, c :: r, l, t, h, hl => by
    have h : (if c == 10 then (splitBy n r []).map fun t => l :: t else if isLetter c = true then splitBy n r (l ++ [c]) else none) = some t := h
    by_cases c1 : (c == 10) = true
    · rw [if_pos c1] at h
      obtain ⟨t', _, rfl⟩ := Option.map_eq_some_iff.mp h
      exact ⟨l, t', rfl, Nat.le_refl _⟩
    · rw [if_neg c1] at h
      by_cases c2 : isLetter c = true
      · rw [if_pos c2] at h
        obtain ⟨x, t', e, hx⟩ := split_long n r (l ++ [c]) t h (by simp)
        rw [List.length_append] at hx
        exact ⟨x, t', e, by omega⟩
      · rw [if_neg c2] at h
        cases h
def rdPost (f : Text) (t : Text) : Option Text := if 24 < (f ++ t).length ∨ (f ++ t).any (fun x => decide (16 < x.length)) = true then none else some (f ++ t)
theorem rd_split : ∀ (b : Bytes) (n : Nat) (f : Text) (l : Line), b.length < n → (∀ x ∈ f, x.length ≤ 16) → l.length ≤ 16 → (rdLoop b f l).bind rdEnd = (splitBy n b l).bind (rdPost f)
  | _, 0, _, _, h, _, _ => by omega
  | [], n + 1, f, l, _, hf, _ => by
    cases l with
    | nil =>
      show rdEnd (f, []) = rdPost f []
      unfold rdEnd rdPost
      have ha : f.any (fun x => decide (16 < x.length)) = false := by
        rw [List.any_eq_false]
        intro x hx
        have := hf x hx
        simp
        omega
      rw [List.append_nil, ha]
      by_cases c : f.length ≤ 24
      · rw [if_pos ⟨rfl, c⟩, if_neg (by simp; omega)]
      · rw [if_neg (fun z => c z.2), if_pos (.inl (by omega))]
    | cons x l => rfl
  | c :: r, n + 1, f, l, h, hf, hl => by
    have h' : r.length + 1 < n + 1 := h
    have e1 : rdLoop (c :: r) f l = if c = 10 then rdLoop r (f ++ [l]) [] else if isLetter c = true ∧ l.length < 16 then rdLoop r f (l ++ [c]) else none := rfl
    have e2 : splitBy (n + 1) (c :: r) l = if c == 10 then (splitBy n r []).map fun t => l :: t else if isLetter c = true then splitBy n r (l ++ [c]) else none := rfl
    rw [e1, e2]
    by_cases c1 : c = 10
    · rw [if_pos c1, if_pos (beq_iff_eq.mpr c1), rd_split r n (f ++ [l]) [] (by omega) (fun x hx => by
        rcases List.mem_append.mp hx with hx | hx
        · exact hf x hx
        · rw [List.mem_singleton.mp hx]; exact hl) (by simp)]
      cases splitBy n r [] with
      | none => rfl
      | some t =>
        show rdPost (f ++ [l]) t = rdPost f (l :: t)
        unfold rdPost
        rw [show f ++ [l] ++ t = f ++ (l :: t) from by simp]
    · rw [if_neg c1, if_neg (fun z => c1 (beq_iff_eq.mp z))]
      by_cases c2 : isLetter c = true
      · rw [if_pos c2]
        by_cases c3 : l.length < 16
        · rw [if_pos ⟨c2, c3⟩]
          exact rd_split r n f (l ++ [c]) (by omega) hf (by rw [List.length_append]; show l.length + 1 ≤ 16; omega)
        · rw [if_neg (fun z => c3 z.2)]
          cases hs : splitBy n r (l ++ [c]) with
          | none => rfl
          | some t =>
            obtain ⟨x, t', rfl, hx⟩ := split_long n r (l ++ [c]) t hs (by simp)
            show none = rdPost f (x :: t')
            unfold rdPost
            rw [if_pos]
            right
            rw [List.any_append, Bool.or_eq_true]
            right
            rw [List.any_cons, Bool.or_eq_true]
            left
            rw [List.length_append, List.length_singleton] at hx
            exact decide_eq_true (by omega)
      · rw [if_neg (fun z => c2 z.1), if_neg c2]
        rfl
theorem read_loop (b : Bytes) : readText b = (rdLoop b [] []).bind rdEnd := by
  rw [rd_split b (b.length + 1) [] [] (Nat.lt_succ_self _) (fun x hx => by cases hx) (by simp)]
  rfl
theorem read_ok {b : Bytes} {t : Text} (h : readText b = some t) : t.length ≤ 24 ∧ ∀ x ∈ t, x.length ≤ 16 := by
  unfold readText at h
  cases ht : textOf b with
  | none => rw [ht] at h; cases h
  | some u =>
    rw [ht] at h
    have h : (if LINES < u.length ∨ u.any (fun x => decide (LONG < x.length)) = true then none else some u) = some t := h
    by_cases c : LINES < u.length ∨ u.any (fun x => decide (LONG < x.length)) = true
    · rw [if_pos c] at h; cases h
    · rw [if_neg c] at h
      cases h
      refine ⟨?_, fun x hx => ?_⟩
      · have : ¬ LINES < t.length := fun z => c (.inl z)
        unfold LINES at this
        omega
      · by_cases d : 16 < x.length
        · exact absurd (Or.inr (List.any_eq_true.mpr ⟨x, hx, decide_eq_true d⟩)) c
        · omega
open Vasedc in
mutual
theorem rowA_mem : ∀ (p : Patch) (k : Text) (o : Patch), o ∈ (rowA k p).2 → ∀ m ∈ o, m ∈ p
  | [], k, o, h, m, hm => by cases h
  | .keep x :: r, k, o, h, m, hm => by
    rw [rowA] at h
    exact List.mem_cons_of_mem _ (rowA_mem r _ o h m hm)
  | .drop x :: r, k, o, h, m, hm => by
    rw [rowA] at h
    rcases rowB_mem r _ o h m hm with h | h
    · rw [List.mem_singleton.mp h]; exact List.mem_cons_self
    · exact List.mem_cons_of_mem _ h
  | .put x :: r, k, o, h, m, hm => by
    rw [rowA] at h
    rcases rowB_mem r _ o h m hm with h | h
    · rw [List.mem_singleton.mp h]; exact List.mem_cons_self
    · exact List.mem_cons_of_mem _ h
theorem rowB_mem : ∀ (p : Patch) (c : Patch) (o : Patch), o ∈ (rowB c p).2 → ∀ m ∈ o, m ∈ c ∨ m ∈ p
  | [], c, o, h, m, hm => by
    have h : o ∈ [c] := h
    rw [List.mem_singleton.mp h] at hm
    exact .inl hm
  | .keep x :: r, c, o, h, m, hm => by
    rw [rowB] at h
    rcases List.mem_cons.mp h with h | h
    · rw [h] at hm; exact .inl hm
    · exact .inr (List.mem_cons_of_mem _ (rowA_mem r _ o h m hm))
  | .drop x :: r, c, o, h, m, hm => by
    rw [rowB] at h
    rcases rowB_mem r _ o h m hm with h | h
    · rcases List.mem_append.mp h with h | h
      · exact .inl h
      · rw [List.mem_singleton.mp h]; exact .inr List.mem_cons_self
    · exact .inr (List.mem_cons_of_mem _ h)
  | .put x :: r, c, o, h, m, hm => by
    rw [rowB] at h
    rcases rowB_mem r _ o h m hm with h | h
    · rcases List.mem_append.mp h with h | h
      · exact .inl h
      · rw [List.mem_singleton.mp h]; exact .inr List.mem_cons_self
    · exact .inr (List.mem_cons_of_mem _ h)
end
open Vasedc in
theorem mapRows_new {B : Nat} : ∀ (n : Nat) (ks : List Text) (os : List Patch), (∀ o ∈ os, ∀ m ∈ o, (lineIn m).length ≤ B) → ∀ h ∈ mapRows n ks os, ∀ x ∈ h.new, x.length ≤ B
  | n, k0 :: k1 :: ks, o :: os, ho, h, hm, x, hx => by
    have hm : h ∈ (⟨n + k0.length, k0.drop (k0.length - 2), outsOf o, insOf o, k1.take 2⟩ : Hunk) :: mapRows (n + k0.length + (outsOf o).length) (k1 :: ks) os := hm
    rcases List.mem_cons.mp hm with e | hm
    · subst e
      have hx : x ∈ (o.filter isPut).map lineIn := hx
      obtain ⟨m, hmm, rfl⟩ := List.mem_map.mp hx
      exact ho o List.mem_cons_self m (List.mem_filter.mp hmm).1
    · exact mapRows_new _ _ _ (fun o h => ho o (List.mem_cons_of_mem _ h)) h hm x hx
  | n, [], [], _, h, hm, _, _ => by cases hm
  | n, [], _ :: _, _, h, hm, _, _ => by cases hm
  | n, [_], [], _, h, hm, _, _ => by cases hm
  | n, [_], _ :: _, _, h, hm, _, _ => by cases hm
  | n, _ :: _ :: _, [], _, h, hm, _, _ => by cases hm
open Vasedc in
theorem drift_small {t : Text} {N B : Nat} (ht : ∀ x ∈ t, x.length ≤ B) : ∀ (hs : List Hunk) (k at_ : Nat) (d : Int) (w : Text), driftBy t k at_ d hs = .ok w → (∀ h ∈ hs, h.new.length ≤ N ∧ ∀ x ∈ h.new, x.length ≤ B) →
    w.length ≤ t.length - at_ + hs.length * N ∧ ∀ x ∈ w, x.length ≤ B
  | [], k, at_, d, w, e, _ => by
    have e : Except.ok (t.drop at_) = Except.ok w := e
    cases e
    exact ⟨by rw [List.length_drop]; omega, fun x hx => ht x (List.mem_of_mem_drop hx)⟩
  | h :: r, k, at_, d, w, e, hh => by
    rw [drift_cons] at e
    cases hf : (placesBy (at_ + h.ahead.length) (t.length - h.old.length) ((h.at_ : Int) + d).toNat).find? (standsAt t h) with
    | none => rw [hf] at e; cases e
    | some i =>
      rw [hf] at e
      have e : (driftBy t (k + 1) (i + h.old.length) ((i : Int) - (h.at_ : Int)) r).map (fun l => (t.drop at_).take (i - at_) ++ (h.new ++ l)) = .ok w := e
      have hmm := List.mem_of_find?_eq_some hf
      rw [places_eq] at hmm
      obtain ⟨dd, _, hdd⟩ := List.mem_flatMap.mp hmm
      obtain ⟨j1, j2, _⟩ := plF_mem hdd
      cases hd : driftBy t (k + 1) (i + h.old.length) ((i : Int) - (h.at_ : Int)) r with
      | error n => rw [hd] at e; cases e
      | ok l =>
        rw [hd] at e
        have e : Except.ok ((t.drop at_).take (i - at_) ++ (h.new ++ l)) = Except.ok w := e
        cases e
        obtain ⟨h1, h2⟩ := drift_small ht r _ _ _ l hd (fun h hm => hh h (List.mem_cons_of_mem _ hm))
        obtain ⟨h3, h4⟩ := hh h List.mem_cons_self
        refine ⟨?_, fun x hx => ?_⟩
        · rw [List.length_append, List.length_append, List.length_take, List.length_drop, List.length_cons, Nat.add_mul]
          omega
        · rcases List.mem_append.mp hx with hx | hx
          · exact ht x (List.mem_of_mem_drop (List.mem_of_mem_take hx))
          · rcases List.mem_append.mp hx with hx | hx
            · exact h4 x hx
            · exact h2 x hx
end Lp
end
section
set_option maxHeartbeats 4000000
/-! ### the least patch; turned round; one behind the other -/
namespace Lp
open PySem PySem.Spec PyProof.Rows L2
open PySem.W (Frag)
open Vaseda (Line Text)
open Vasedc (Op Patch)
section
variable {P : Program} {w : World} {K : Frag} {mg : Str → Option Value} {base : Heap}
abbrev s_least_patch : Stmt := topS 8
theorem sc_least_patch : FnScope ["one", "other", "common", "found", "i", "j", "line"] ["one", "other"] (defScope s_least_patch) := ⟨rfl, rfl, rfl, by decide +kernel, rfl, by decide +kernel, by decide +kernel⟩
def spLeast : Sp := fun vs H Q _ => ∃ (a b : Addr) (s t : Text), vs = [.ref a, .ref b] ∧ H a = some (.lst (vT s)) ∧ H b = some (.lst (vT t)) ∧ s.length ≤ 100 ∧ t.length ≤ 100 ∧
  ∀ p H', Same H H' → MkAt H' p (Vasedc.patch s t) → Q (.ref p) H'
theorem Tab.mono {H0 H H' : Hp} {tb : Addr} {rs : List Addr} {m n : Nat} {f : Nat → Nat → Nat} (t : Tab H0 H tb rs m n f) (s : Same H H') : Tab H0 H' tb rs m n f :=
  ⟨t.same.trans s, t.tb0, s _ _ t.tbl, t.nd, t.len, t.fr, fun i ad e => s _ _ (t.row i ad e), t.ne⟩
theorem ok_least_patch (A : FnAt K mg "least_patch" s_least_patch ["one", "other"]) (T : Txt K mg) (D_commons : Dn P w K mg base CX0 1 "commons" ["one", "other"] spCommons) :
    Dn P w K mg base CX0 2 "least_patch" ["one", "other"] spLeast := A.dn fun f fd F => by
  refine ok0 F sc_least_patch (fun vs H Q E h => ?_) (fun cdv A outer s H vs Q E hr h => ?_)
  · obtain ⟨a, b, s, t, rfl, _⟩ := h
    rfl
  obtain ⟨a, b, s, t, rfl, ha, hb, hs, ht, k⟩ := h
  refine ⟨_, (pss_cons (ps_set (i := 2) sc_least_patch.nd rfl (Or.inl rfl) (pe_f D_commons (hr.mono (by decide)) pass0 (pa_cons (pv 0) (pa_cons (pv 1) pa_nil))))
      (pss_cons (ps_set (i := 3) sc_least_patch.nd rfl (Or.inl rfl) (pe_lst pa_nil))
      (pss_cons (ps_asg (pe_tup (pa_cons pe_int (pa_cons pe_int pa_nil))) (pg_tup (by rfl) (pgs_cons (pg_name (i := 4) sc_least_patch.nd rfl (Or.inl rfl)) (pgs_cons (pg_name (i := 5) sc_least_patch.nd rfl (Or.inl rfl)) pgs_nil))))
      (pss_cons (ps_while PassesOwn.never (PW.pt (pw_and (pt_cmpR op_lt (pv 4) (pe_callB call_len (by rfl) T.f_len PySem.boot_len (pa_cons (pv 0) pa_nil)) (nomark _)) (pw_and1 (pt_cmpR op_lt (pv 5) (pe_callB call_len (by rfl) T.f_len PySem.boot_len (pa_cons (pv 1) pa_nil)) (nomark _)))))
      (pss_one (ps_if (pt_cmpR op_eq (pe_ix ix_list (pv 0) (pv 4) (fun _ _ => rfl)) (pe_ix ix_list (pv 1) (pv 5) (fun _ _ => rfl)) (nomark _))
      (pss_cons (ps_expr (pe_bm PySem.F.plainAttrs_list PySem.F.slot_list_append PySem.F.type_list_append mt_append (pv 3) (pa_cons (pe_tup (pa_cons (pe_gint T.g_KEPT) (pa_cons (pe_ix ix_list (pv 0) (pv 4) (fun _ _ => rfl)) pa_nil))) pa_nil)))
      (pss_one (ps_par (i := 4) (j := 5) (by rfl) sc_least_patch.nd rfl rfl (by decide) rfl rfl (pa_cons (pe_op op_add (pv 4) pe_int) (pa_cons (pe_op op_add (pv 5) pe_int) pa_nil)) (by rfl))))
      (pss_one (ps_if (pt_cmpR op_ge (pe_ix ix_list (pe_ix ix_list (pv 2) (pe_op op_add (pv 4) pe_int) (fun _ _ => rfl)) (pv 5) (fun _ _ => rfl)) (pe_ix ix_list (pe_ix ix_list (pv 2) (pv 4) (fun _ _ => rfl)) (pe_op op_add (pv 5) pe_int) (fun _ _ => rfl)) (nomark _))
      (pss_cons (ps_expr (pe_bm PySem.F.plainAttrs_list PySem.F.slot_list_append PySem.F.type_list_append mt_append (pv 3) (pa_cons (pe_tup (pa_cons (pe_gint T.g_OUT) (pa_cons (pe_ix ix_list (pv 0) (pv 4) (fun _ _ => rfl)) pa_nil))) pa_nil)))
      (pss_one (ps_aug (i := 4) sc_least_patch.nd rfl (.inl rfl) pe_int ip_add)))
      (pss_cons (ps_expr (pe_bm PySem.F.plainAttrs_list PySem.F.slot_list_append PySem.F.type_list_append mt_append (pv 3) (pa_cons (pe_tup (pa_cons (pe_gint T.g_IN) (pa_cons (pe_ix ix_list (pv 1) (pv 5) (fun _ _ => rfl)) pa_nil))) pa_nil)))
      (pss_one (ps_aug (i := 5) sc_least_patch.nd rfl (.inl rfl) pe_int ip_add))))))))
      (pss_one (ps_ret (pe_op op_cat (pe_op op_cat (pv 3) (by exact (pe_lc (own := [("line", 6)]) (by rfl) sc_least_patch.nd (pi_list (pe_slice sl_list (pv 0) (po_some (pv 4)) po_none)) (blkOk_by (own := [("line", 6)]) (N := ["one", "other", "common", "found", "i", "j", "line"]) (sc := defScope s_least_patch) (by decide +kernel)) (fun _ _ _ _ _ => by exact (pg_name (i := 6) sc_least_patch.nd rfl (Or.inl rfl))) (fun _ _ _ _ _ => pts_nil) (fun _ _ _ _ _ => by exact (pe_tup (pa_cons (pe_gint T.g_OUT) (pa_cons (pv 6) pa_nil))))))) (by exact (pe_lc (own := [("line", 6)]) (by rfl) sc_least_patch.nd (pi_list (pe_slice sl_list (pv 1) (po_some (pv 5)) po_none)) (blkOk_by (own := [("line", 6)]) (N := ["one", "other", "common", "found", "i", "j", "line"]) (sc := defScope s_least_patch) (by decide +kernel)) (fun _ _ _ _ _ => by exact (pg_name (i := 6) sc_least_patch.nd rfl (Or.inl rfl))) (fun _ _ _ _ _ => pts_nil) (fun _ _ _ _ _ => by exact (pe_tup (pa_cons (pe_gint T.g_IN) (pa_cons (pv 6) pa_nil))))))))))))), ?_⟩
  refine ⟨_, rfl, _, rfl, a, b, s, t, rfl, ha, hb, hs, ht, fun tb rs H1 tab => ?_⟩
  refine ⟨by show 0 ≤ sizeLine; decide, fun F hF => ?_⟩
  refine ⟨by show 2 ≤ sizeLine; decide, fun T0 hT0 => ?_⟩
  refine ⟨T0, _, rfl, .of upd_same, rfl, _, _, rfl, _, _, rfl, rfl, ?_⟩
  have s0 := tab.same
  have hF0 : H F = none := s0.free hF
  refine ⟨fun m σ H' => ∃ (i j : Nat) (q : Patch) (ts : List Addr), σ = [some (.ref a), some (.ref b), some (.ref tb), some (.ref F), some (.int (i : Int)), some (.int (j : Int)), none] ∧ i ≤ s.length ∧ j ≤ t.length ∧ m = (s.length - i) + (t.length - j) ∧
    Same H1 H' ∧ H' F = some (.lst (ts.map V.ref)) ∧ MkTs H' q ts ∧ Vasedc.patch s t = q ++ pFrom s t i j ∧ q.length ≤ i + j, ⟨_, 0, 0, [], [], rfl, Nat.zero_le _, Nat.zero_le _, rfl, ((Same.refl H1).new hF).new hT0, by rw [upd_ne (fun z => by rw [← z, upd_same] at hT0; cases hT0)]; exact upd_same, .nil, rfl, Nat.le_refl _⟩, ?_⟩
  rintro m σ H2 ⟨i, j, q, ts, rfl, hi, hj, hm, s1, hl, hq, eq, lq⟩
  have ha2 := s1 _ _ (s0 _ _ ha)
  have hb2 := s1 _ _ (s0 _ _ hb)
  have tab2 := tab.mono s1
  have lts := Paired.length hq
  have fin : ((i < s.length) → ¬ (j < t.length)) → tRet (tOp rCat (tOp rCat (tVar 3) (tLc (iList K (tSl (rSlL K) (tVar 0) (tPart (tVar 4)) tNoPart)) (gName 6) tYes (tTup (tCons (tC (.int 1)) (tCons (tVar 6) tNil))) [6]))
      (tLc (iList K (tSl (rSlL K) (tVar 1) (tPart (tVar 5)) tNoPart)) (gName 6) tYes (tTup (tCons (tC (.int 2)) (tCons (tVar 6) tNil))) [6])) { nx := fun _ H' => Q .non H', rt := Q }
      [some (.ref a), some (.ref b), some (.ref tb), some (.ref F), some (.int (i : Int)), some (.int (j : Int)), none] H2 := fun hend => by
    refine ⟨_, rfl, _, rfl, _, rfl, _, rfl, a, _, rfl, .of ha2, fun p hp => ?_⟩
    rw [cutV_from _ _ (by rw [vT_len]; exact hi), ← List.map_drop]
    refine ⟨p, rfl, ⟨_, .of upd_same⟩, fun D hD => lc_tag Op.drop (fun _ => rfl) upd_same (by rw [List.length_drop]; omega) hD (fun _ => rfl) (fun _ => rfl) fun H3 ts3 s3 h3 m3 => ?_⟩
    have s2 : Same H2 H3 := ((Same.refl H2).new hp).trans s3
    refine ⟨F, D, _, _, rfl, rfl, s2 _ _ hl, h3, small' ?_, fun r hr' => ?_⟩
    · have := Paired.length m3
      simp only [List.length_map, List.length_drop] at this ⊢
      omega
    have s4 : Same H2 (upd H3 r (.lst (ts.map V.ref ++ ts3.map V.ref))) := s2.new hr'
    refine ⟨_, rfl, _, rfl, _, rfl, b, _, rfl, .of (s4 _ _ hb2), fun p2 hp2 => ?_⟩
    rw [cutV_from _ _ (by rw [vT_len]; exact hj), ← List.map_drop]
    refine ⟨p2, rfl, ⟨_, .of upd_same⟩, fun D2 hD2 => lc_tag Op.put (fun _ => rfl) upd_same (by rw [List.length_drop]; omega) hD2 (fun _ => rfl) (fun _ => rfl) fun H5 ts5 s5 h5 m5 => ?_⟩
    have s6 := ((Same.refl (upd H3 r (.lst (ts.map V.ref ++ ts3.map V.ref)))).new hp2).trans s5
    refine ⟨r, D2, _, _, rfl, rfl, s6 _ _ upd_same, h5, small' ?_, fun g hg => ?_⟩
    · have := Paired.length m3
      have := Paired.length m5
      simp only [List.length_map, List.length_drop, List.length_append] at *
      omega
    have s7 : Same H3 (upd H5 g (.lst (ts.map V.ref ++ ts3.map V.ref ++ ts5.map V.ref))) := (((Same.refl H3).new hr').trans s6).new hg
    refine k g _ (((s0.trans s1).trans s2).trans s7) ⟨ts ++ ts3 ++ ts5, ?_, ?_⟩
    · rw [upd_same, List.map_append, List.map_append]
    · have e2 : Vasedc.patch s t = q ++ (s.drop i).map Op.drop ++ (t.drop j).map Op.put := by
        rw [eq, List.append_assoc]
        congr 1
        by_cases c : i < s.length
        · have c2 := hend c
          rw [pFrom_end1 s t i j (by omega), List.drop_eq_nil_of_le (show t.length ≤ j by omega)]
          simp
        · rw [pFrom_end0 s t i j (by omega), List.drop_eq_nil_of_le (show s.length ≤ i by omega)]
          simp
      rw [e2]
      exact Paired.app (Paired.app (MkTs.mono (s2.trans s7) hq) (MkTs.mono s7 m3)) (MkTs.mono ((Same.refl H5).new hg) m5)
  refine ⟨_, rfl, _, rfl, _, s.length, rfl, .inl ⟨_, .of ha2, vT_len.symm⟩, _, _, rfl, rfl, _, rfl, ?_⟩
  refine if_of (fun c1 => ?_) (fun c1 => ?_)
  · have c1 := of_decide_eq_true c1
    have hi' : i < s.length := by omega
    refine ⟨_, rfl, _, rfl, _, t.length, rfl, .inl ⟨_, .of hb2, vT_len.symm⟩, _, _, rfl, rfl, _, rfl, ?_⟩
    refine if_of (fun c2 => ?_) (fun c2 => ?_)
    · have c2 := of_decide_eq_true c2
      have hj' : j < t.length := by omega
      refine ⟨_, fun _ _ z => z, ?_⟩
      have step := pFrom_step s t i j hi' hj'
      refine ⟨_, rfl, _, rfl, a, _, _, _, rfl, rfl, .of ha2, atI_nat (vT_get hi'), _, rfl, _, rfl, b, _, _, _, rfl, rfl, .of hb2, atI_nat (vT_get hj'), rfl, _, rfl, ?_⟩
      rw [vS_eq]
      refine if_of (fun c => ?_) (fun c => ?_)
      · have c := of_decide_eq_true c
        rw [if_pos c] at step
        refine ⟨_, rfl, .inl ⟨rfl, _, .of hl⟩, _, rfl, _, rfl, a, _, _, _, rfl, rfl, .of ha2, atI_nat (vT_get hi'), by show 2 ≤ sizeLine; decide, fun p hp => ?_⟩
        have pF : F ≠ p := fun z => by rw [z, hp] at hl; cases hl
        refine ⟨F, _, _, rfl, rfl, by rw [upd_ne pF]; exact hl, small (by rw [List.length_map]; omega), ?_⟩
        refine ⟨_, rfl, _, _, rfl, rfl, _, rfl, _, _, rfl, rfl, _, _, rfl, ?_⟩
        refine ⟨_, ?_, i + 1, j + 1, q ++ [Op.keep s[i]], ts ++ [p], rfl, by omega, by omega, rfl, (s1.new hp).mut hF, ?_, MkTs.addT (o := Op.keep s[i]) rfl hq hp hl, ?_, by rw [List.length_append]; show q.length + 1 ≤ _; omega⟩
        · omega
        · rw [upd_same, List.map_append]
          rfl
        · rw [eq, step]
          simp
      · have c := of_decide_eq_false c
        rw [if_neg c] at step
        obtain ⟨ad1, _, e5, e6⟩ := tab2.get (i := i + 1) (by omega)
        obtain ⟨ad, _, e2, e3⟩ := tab2.get (i := i) (by omega)
        refine ⟨_, rfl, _, rfl, _, _, rfl, rfl, tb, _, _, _, rfl, rfl, .of tab2.tbl, at_of (j := i + 1) (by omega) e5, _, rfl, ad1, _, _, _, rfl, rfl, .of e6, atI_nat (rowV_get (by omega)), ?_⟩
        refine ⟨_, rfl, _, rfl, tb, _, _, _, rfl, rfl, .of tab2.tbl, atI_nat e2, _, rfl, _, _, rfl, rfl, ad, _, _, _, rfl, rfl, .of e3, at_of (j := j + 1) (by omega) (rowV_get (by omega)), _, _, rfl, rfl, _, rfl, ?_⟩
        refine if_of (fun d => ?_) (fun d => ?_)
        · have d := of_decide_eq_true d
          rw [if_pos (by omega)] at step
          refine ⟨_, rfl, .inl ⟨rfl, _, .of hl⟩, _, rfl, _, rfl, a, _, _, _, rfl, rfl, .of ha2, atI_nat (vT_get hi'), by show 2 ≤ sizeLine; decide, fun p hp => ?_⟩
          have pF : F ≠ p := fun z => by rw [z, hp] at hl; cases hl
          refine ⟨F, _, _, rfl, rfl, by rw [upd_ne pF]; exact hl, small (by rw [List.length_map]; omega), ?_⟩
          refine ⟨_, rfl, _, _, rfl, rfl, ?_⟩
          refine ⟨_, ?_, i + 1, j, q ++ [Op.drop s[i]], ts ++ [p], rfl, by omega, by omega, rfl, (s1.new hp).mut hF, ?_, MkTs.addT (o := Op.drop s[i]) rfl hq hp hl, ?_, by rw [List.length_append]; show q.length + 1 ≤ _; omega⟩
          · omega
          · rw [upd_same, List.map_append]
            rfl
          · rw [eq, step]
            simp
        · have d := of_decide_eq_false d
          rw [if_neg (by omega)] at step
          refine ⟨_, rfl, .inl ⟨rfl, _, .of hl⟩, _, rfl, _, rfl, b, _, _, _, rfl, rfl, .of hb2, atI_nat (vT_get hj'), by show 2 ≤ sizeLine; decide, fun p hp => ?_⟩
          have pF : F ≠ p := fun z => by rw [z, hp] at hl; cases hl
          refine ⟨F, _, _, rfl, rfl, by rw [upd_ne pF]; exact hl, small (by rw [List.length_map]; omega), ?_⟩
          refine ⟨_, rfl, _, _, rfl, rfl, ?_⟩
          refine ⟨_, ?_, i, j + 1, q ++ [Op.put t[j]], ts ++ [p], rfl, by omega, by omega, rfl, (s1.new hp).mut hF, ?_, MkTs.addT (o := Op.put t[j]) rfl hq hp hl, ?_, by rw [List.length_append]; show q.length + 1 ≤ _; omega⟩
          · omega
          · rw [upd_same, List.map_append]
            rfl
          · rw [eq, step]
            simp
    · have c2 := of_decide_eq_false c2
      exact fin fun _ => by omega
  · have c1 := of_decide_eq_false c1
    exact iteF (fin fun z => absurd z (by omega))
end
end Lp
end
section
set_option maxHeartbeats 4000000
/-! ### turned round; one behind the other -/
namespace Lp
open PySem PySem.Spec PyProof.Rows L2
open PySem.W (Frag)
open Vaseda (Line Text)
open Vasedc (Op Patch)
/-- [f for kind, line in marks if t], f no object -/
theorem lc_sel {K : Frag} {a : Addr} {p : Patch} {i j : Nat} (fT : Op → Bool) (fV : Op → V) {tt : TT} {te : TE} {vs : List Nat} {σ : L2.St} {H1 : Hp} {D : Addr} {Qd : Hp → Prop} (h00 : MkAt H1 a p) (hz : p.length ≤ 10000) (hD : H1 D = none)
    (hw : ∀ x y, wipe (((wipe σ vs).set i (some x)).set j (some y)) vs = wipe σ vs)
    (ht : ∀ (o : Op) (H : Hp) (Q : Bool → Hp → Prop), Q (fT o) H → tt (((wipe σ vs).set i (some (.int (kOf o)))).set j (some (vS (Vasedc.lineIn o)))) H Q)
    (he : ∀ (o : Op) (H : Hp) (Q : VK), fT o = true → Q (fV o) H → te (((wipe σ vs).set i (some (.int (kOf o)))).set j (some (vS (Vasedc.lineIn o)))) H Q)
    (hd : ∀ H', Same H1 H' → H' D = some (.lst ((p.filter fT).map fV)) → Qd H') :
    ∃ W : Nat → Nat → Hp → Prop, (∃ m, W 0 m (upd H1 D (.lst []))) ∧ ∀ i' m H, W i' m H →
      ((Itl K a).stop i' H ∧ Qd H) ∨ ((Itl K a).go i' H ∧ ∃ Nx : Hp → Prop, (∀ H', Nx H' → ∃ m', m' < m ∧ W (i' + 1) m' H') ∧ ∀ x H', (Itl K a).yld i' H x H' → gTup K 2 (gCons (gName i) (gCons (gName j) gNil)) x (wipe σ vs) H' fun σ2 H2 => wipe σ2 vs = wipe σ vs ∧ tt σ2 H2 fun b H3 =>
        if b = true then te σ2 H3 fun y H4 => ∃ acc, H4 D = some (.lst acc) ∧ acc.length < sizeLine ∧ Nx (upd H4 D (.lst (acc ++ [y]))) else Nx H3) := by
  refine lc_mk h00 (fun pre H' => Same H1 H' ∧ H' D = some (.lst ((pre.filter fT).map fV))) ⟨(Same.refl H1).new hD, upd_same⟩ (fun _ _ h => h.1) ?_ (fun H' h => hd H' h.1 h.2)
  rintro pre o post t H' e ⟨s1, hl⟩ ht'
  refine ⟨t, _, rfl, .of ht', rfl, _, _, rfl, _, _, rfl, rfl, hw _ _, ?_⟩
  refine ht o H' _ ?_
  have l1 := List.length_filter_le fT pre
  have l2 := pre_len e
  refine if_of (fun c => ?_) (fun c => ?_)
  · refine he o H' _ c ⟨_, hl, small (by rw [List.length_map]; omega), s1.mut hD, ?_⟩
    rw [upd_same, List.filter_append, List.map_append, List.filter_cons, if_pos c]
    rfl
  · refine ⟨s1, ?_⟩
    rw [List.filter_append, List.map_append, List.filter_cons, if_neg (by rw [c]; exact Bool.false_ne_true), hl]
    simp
/-- a comprehension over zip of two lists of one length -/
theorem lc_zip {K : Frag} {a b : Addr} {xs ys : List V} {g : TG} {tt : TT} {te : TE} {vs : List Nat} {σ : L2.St} {H1 : Hp} {D : Addr} {Qd : Hp → Prop} (hl : xs.length = ys.length) (Pv : Nat → Hp → Prop) (h0 : Pv 0 (upd H1 D (.lst []))) (hq : ∀ i H, Pv i H → SqL K H a xs ∧ SqL K H b ys)
    (hs : ∀ (i : Nat) (x y : V) (T : Addr) (H : Hp), xs[i]? = some x → ys[i]? = some y → Pv i H → H T = none → g (.ref T) (wipe σ vs) (upd H T (.tup [x, y])) fun σ2 H2 => wipe σ2 vs = wipe σ vs ∧ tt σ2 H2 fun b H3 =>
      if b = true then te σ2 H3 fun y H4 => ∃ acc, H4 D = some (.lst acc) ∧ acc.length < sizeLine ∧ Pv (i + 1) (upd H4 D (.lst (acc ++ [y]))) else Pv (i + 1) H3) (hd : ∀ H, Pv xs.length H → Qd H) :
    ∃ W : Nat → Nat → Hp → Prop, (∃ m, W 0 m (upd H1 D (.lst []))) ∧ ∀ i m H, W i m H →
      ((Itz K a b).stop i H ∧ Qd H) ∨ ((Itz K a b).go i H ∧ ∃ Nx : Hp → Prop, (∀ H', Nx H' → ∃ m', m' < m ∧ W (i + 1) m' H') ∧ ∀ x H', (Itz K a b).yld i H x H' → g x (wipe σ vs) H' fun σ2 H2 => wipe σ2 vs = wipe σ vs ∧ tt σ2 H2 fun b H3 =>
        if b = true then te σ2 H3 fun y H4 => ∃ acc, H4 D = some (.lst acc) ∧ acc.length < sizeLine ∧ Nx (upd H4 D (.lst (acc ++ [y]))) else Nx H3) := by
  refine ⟨fun i m H => m = xs.length - i ∧ i ≤ xs.length ∧ Pv i H, ⟨xs.length, rfl, Nat.zero_le _, h0⟩, ?_⟩
  rintro i m H ⟨rfl, hi, p⟩
  obtain ⟨qx, qy⟩ := hq i H p
  by_cases hlt : i < xs.length
  · have ex : xs[i]? = some xs[i] := List.getElem?_eq_getElem hlt
    have ey : ys[i]? = some ys[i] := List.getElem?_eq_getElem (by omega)
    refine .inr ⟨⟨xs, ys, _, _, qx, qy, ex, ey⟩, Pv (i + 1), fun H' p' => ⟨xs.length - (i + 1), by omega, rfl, hlt, p'⟩, fun v H' y => ?_⟩
    obtain ⟨T, x, z, rfl, hT, rfl, y1, y2⟩ := y
    exact hs i x z T H (y1 xs qx) (y2 ys qy) p hT
  · have e : i = xs.length := by omega
    subst e
    exact .inl ⟨⟨xs, ys, qx, qy, .inl (Nat.le_refl _)⟩, hd H p⟩
theorem kind_ne1 (o : Op) : (!decide (V.int (kOf o) = V.int 1)) = !Vasedc.isDrop o := by cases o <;> rfl
theorem kind_ne2 (o : Op) : (!decide (V.int (kOf o) = V.int 2)) = !Vasedc.isPut o := by cases o <;> rfl
theorem kind_eq1 (o : Op) : decide (V.int (kOf o) = V.int 1) = Vasedc.isDrop o := by cases o <;> rfl
theorem kind_eq2 (o : Op) : decide (V.int (kOf o) = V.int 2) = Vasedc.isPut o := by cases o <;> rfl
theorem kind_eq0 (o : Op) : decide (V.int (kOf o) = V.int 0) = Vasedc.isKeep o := by cases o <;> rfl
def turn1 (o : Op) : Op := match o with
  | .keep x => .keep x
  | .drop x => .put x
  | .put x => .drop x
theorem turned_map (p : Patch) : Vasedc.turned p = p.map turn1 := rfl
section
variable {P : Program} {w : World} {K : Frag} {mg : Str → Option Value} {base : Heap}
abbrev s_turned_round : Stmt := topS 10
theorem sc_turned_round : FnScope ["marks", "kind", "line"] ["marks"] (defScope s_turned_round) := ⟨rfl, rfl, rfl, by decide +kernel, rfl, by decide +kernel, by decide +kernel⟩
def spTurned : Sp := fun vs H Q _ => ∃ (a : Addr) (p : Patch), vs = [.ref a] ∧ MkAt H a p ∧ p.length ≤ 10000 ∧ ∀ r H', Same H H' → MkAt H' r (Vasedc.turned p) → Q (.ref r) H'
theorem ok_turned_round (A : FnAt K mg "turned_round" s_turned_round ["marks"]) (T : Txt K mg) : Dn P w K mg base CX0 1 "turned_round" ["marks"] spTurned := A.dn fun f fd F => by
  refine ok0 F sc_turned_round (fun vs H Q E h => ?_) (fun cdv A outer s H vs Q E hr h => ?_)
  · obtain ⟨a, p, rfl, _⟩ := h
    rfl
  obtain ⟨a, p, rfl, hm, hz, k⟩ := h
  obtain ⟨ts0, h1, _⟩ := id hm
  refine ⟨_, (pss_one (ps_ret (by exact (pe_lc (own := [("kind", 1), ("line", 2)]) (by rfl) sc_turned_round.nd (pi_list (pv 0)) (blkOk_by (own := [("kind", 1), ("line", 2)]) (N := ["marks", "kind", "line"]) (sc := defScope s_turned_round) (by decide +kernel)) (fun _ _ _ _ _ => by exact (pg_tupK K 2 rfl (by rfl) (pgs_cons (pg_name (i := 1) sc_turned_round.nd rfl (Or.inl rfl)) (pgs_cons (pg_name (i := 2) sc_turned_round.nd rfl (Or.inl rfl)) pgs_nil)))) (fun _ _ _ _ _ => pts_nil) (fun _ _ _ _ _ => by exact (pe_tup (pa_cons (pe_ix (ix_listK K rfl) (pe_lst (pa_cons (pe_gint T.g_KEPT) (pa_cons (pe_gint T.g_IN) (pa_cons (pe_gint T.g_OUT) pa_nil)))) (pv 1) (fun _ _ => rfl)) (pa_cons (pv 2) pa_nil)))))))), ?_⟩
  refine ⟨_, rfl, a, rfl, ⟨_, .of h1⟩, fun D hD => lc_mk hm (fun pre H' => Same H H' ∧ ∃ ts, H' D = some (.lst (ts.map V.ref)) ∧ MkTs H' (pre.map turn1) ts) ⟨(Same.refl H).new hD, [], upd_same, .nil⟩ (fun _ _ h => h.1) ?_ ?_⟩
  · rintro pre o post t H' e ⟨s1, ts, hl, hts⟩ ht
    have lp := pre_len e
    have lt := Paired.length hts
    rw [List.length_map] at lt
    refine ⟨t, _, rfl, .of ht, rfl, _, _, rfl, _, _, rfl, rfl, rfl, yes ?_⟩
    refine ⟨by show 3 ≤ sizeLine; decide, fun l hl' => ⟨_, rfl, l, _, _, .int (kOf (turn1 o)), rfl, rfl, .of upd_same, by cases o <;> rfl, _, rfl, by show 2 ≤ sizeLine; decide, fun q hq => ?_⟩⟩
    have hq' : H' q = none := by
      by_cases z : q = l
      · rw [z]; exact hl'
      · rw [upd_ne z] at hq; exact hq
    have lD : D ≠ l := fun z => by rw [z, hl'] at hl; cases hl
    have qD : D ≠ q := fun z => by rw [z, hq'] at hl; cases hl
    have s2 := s1.new (o := .lst [V.int 0, V.int 2, V.int 1]) hl'
    refine ⟨ts.map V.ref, by rw [upd_ne qD, upd_ne lD]; exact hl, small (by rw [List.length_map]; omega), (s2.new hq).mut hD, ts ++ [q], ?_, ?_⟩
    · rw [upd_same, List.map_append]
      rfl
    · rw [List.map_append]
      exact MkTs.addT (o := turn1 o) (by cases o <;> rfl) (MkTs.mono ((Same.refl H').new hl') hts) hq (by rw [upd_ne lD]; exact hl)
  · rintro H' ⟨s1, ts, hl, hts⟩
    exact k D H' s1 ⟨ts, hl, hts⟩
abbrev s_cost_behind : Stmt := topS 11
theorem sc_cost_behind : FnScope ["first", "second", "came", "goes", "both", "kind", "line", "one", "other"] ["first", "second"] (defScope s_cost_behind) := ⟨rfl, rfl, rfl, by decide +kernel, rfl, by decide +kernel, by decide +kernel⟩
def spBehind : Sp := fun vs H Q _ => ∃ (a b : Addr) (p q : Patch), vs = [.ref a, .ref b] ∧ MkAt H a p ∧ MkAt H b q ∧ p.length ≤ 10000 ∧ q.length ≤ 10000 ∧ nA p = nB q ∧ ∀ H', Same H H' → Q (.int (behind p q : Nat)) H'
theorem zip_diffs (l : List (Bool × Bool)) (x : Bool × Bool) : diffs (l ++ [x]) = diffs l + (if x.1 != x.2 then 1 else 0) := by
  unfold diffs
  rw [List.filter_append, List.length_append]
  congr 1
  cases h : (x.1 != x.2) <;> simp [List.filter_cons, h]
theorem ok_cost_behind (A : FnAt K mg "cost_behind" s_cost_behind ["first", "second"]) (T : Txt K mg) : Dn P w K mg base CX0 1 "cost_behind" ["first", "second"] spBehind := A.dn fun f fd F => by
  refine ok0 F sc_cost_behind (fun vs H Q E h => ?_) (fun cdv A outer s H vs Q E hr h => ?_)
  · obtain ⟨a, b, p, q, rfl, _⟩ := h
    rfl
  obtain ⟨a, b, p, q, rfl, hp, hq, zp, zq, e, k⟩ := h
  obtain ⟨ts1, hp1, _⟩ := id hp
  obtain ⟨ts2, hq1, _⟩ := id hq
  refine ⟨_, (pss_cons (ps_setLc (i := 2) (own := [("kind", 5), ("line", 6)]) (by rfl) sc_cost_behind.nd rfl rfl (sw_true rfl rfl rfl (by decide +kernel)) (pi_list (pv 0)) (blkOk_by (own := [("kind", 5), ("line", 6)]) (N := ["first", "second", "came", "goes", "both", "kind", "line", "one", "other"]) (sc := defScope s_cost_behind) (by decide +kernel)) (fun _ _ _ _ _ => by exact (pg_tupK K 2 rfl (by rfl) (pgs_cons (pg_name (i := 5) sc_cost_behind.nd rfl (Or.inl rfl)) (pgs_cons (pg_name (i := 6) sc_cost_behind.nd rfl (Or.inl rfl)) pgs_nil)))) (fun _ _ _ _ _ => by exact (pts_one (pt_cmpR op_ne (pv 5) (pe_gint T.g_OUT) (nomark _)))) (fun _ _ _ _ _ => by exact (pe_cmpR op_eq (pv 5) (pe_gint T.g_IN) (nomark _))))
      (pss_cons (ps_setLc (i := 3) (own := [("kind", 5), ("line", 6)]) (by rfl) sc_cost_behind.nd rfl rfl (sw_true rfl rfl rfl (by decide +kernel)) (pi_list (pv 1)) (blkOk_by (own := [("kind", 5), ("line", 6)]) (N := ["first", "second", "came", "goes", "both", "kind", "line", "one", "other"]) (sc := defScope s_cost_behind) (by decide +kernel)) (fun _ _ _ _ _ => by exact (pg_tupK K 2 rfl (by rfl) (pgs_cons (pg_name (i := 5) sc_cost_behind.nd rfl (Or.inl rfl)) (pgs_cons (pg_name (i := 6) sc_cost_behind.nd rfl (Or.inl rfl)) pgs_nil)))) (fun _ _ _ _ _ => by exact (pts_one (pt_cmpR op_ne (pv 5) (pe_gint T.g_IN) (nomark _)))) (fun _ _ _ _ _ => by exact (pe_cmpR op_eq (pv 5) (pe_gint T.g_OUT) (nomark _))))
      (pss_cons (ps_set (i := 4) sc_cost_behind.nd rfl (Or.inl rfl) (pe_callB call_len (by rfl) T.f_len PySem.boot_len (pa_cons (by exact (pe_lc (own := [("one", 7), ("other", 8)]) (by rfl) sc_cost_behind.nd (pi_zip (by rfl) T.f_zip (pa_cons (pv 2) (pa_cons (pv 3) pa_nil))) (blkOk_by (own := [("one", 7), ("other", 8)]) (N := ["first", "second", "came", "goes", "both", "kind", "line", "one", "other"]) (sc := defScope s_cost_behind) (by decide +kernel)) (fun _ _ _ _ _ => by exact (pg_tupK K 2 rfl (by rfl) (pgs_cons (pg_name (i := 7) sc_cost_behind.nd rfl (Or.inl rfl)) (pgs_cons (pg_name (i := 8) sc_cost_behind.nd rfl (Or.inl rfl)) pgs_nil)))) (fun _ _ _ _ _ => by exact (pts_one (pt_cmpR op_ne (pv 7) (pv 8) (nomark _)))) (fun _ _ _ _ _ => by exact pe_int))) pa_nil)))
      (pss_one (ps_ret (pe_op op_add (pe_op op_add (pv 4) (pe_callB call_len (by rfl) T.f_len PySem.boot_len (pa_cons (by exact (pe_lc (own := [("kind", 5), ("line", 6)]) (by rfl) sc_cost_behind.nd (pi_list (pv 0)) (blkOk_by (own := [("kind", 5), ("line", 6)]) (N := ["first", "second", "came", "goes", "both", "kind", "line", "one", "other"]) (sc := defScope s_cost_behind) (by decide +kernel)) (fun _ _ _ _ _ => by exact (pg_tupK K 2 rfl (by rfl) (pgs_cons (pg_name (i := 5) sc_cost_behind.nd rfl (Or.inl rfl)) (pgs_cons (pg_name (i := 6) sc_cost_behind.nd rfl (Or.inl rfl)) pgs_nil)))) (fun _ _ _ _ _ => by exact (pts_one (pt_cmpR op_eq (pv 5) (pe_gint T.g_OUT) (nomark _)))) (fun _ _ _ _ _ => by exact pe_int))) pa_nil))) (pe_callB call_len (by rfl) T.f_len PySem.boot_len (pa_cons (by exact (pe_lc (own := [("kind", 5), ("line", 6)]) (by rfl) sc_cost_behind.nd (pi_list (pv 1)) (blkOk_by (own := [("kind", 5), ("line", 6)]) (N := ["first", "second", "came", "goes", "both", "kind", "line", "one", "other"]) (sc := defScope s_cost_behind) (by decide +kernel)) (fun _ _ _ _ _ => by exact (pg_tupK K 2 rfl (by rfl) (pgs_cons (pg_name (i := 5) sc_cost_behind.nd rfl (Or.inl rfl)) (pgs_cons (pg_name (i := 6) sc_cost_behind.nd rfl (Or.inl rfl)) pgs_nil)))) (fun _ _ _ _ _ => by exact (pts_one (pt_cmpR op_eq (pv 5) (pe_gint T.g_IN) (nomark _)))) (fun _ _ _ _ _ => by exact pe_int))) pa_nil)))))))), ?_⟩
  refine ⟨_, rfl, a, rfl, ⟨_, .of hp1⟩, fun D1 hD1 => lc_sel (fun o => !Vasedc.isDrop o) (fun o => .bl (Vasedc.isPut o)) hp zp hD1 (fun _ _ => rfl) ?_ ?_ fun H1 s1 l1 => ?_⟩
  · intro o H' Q' h
    refine ⟨_, rfl, rfl, _, rfl, ?_⟩
    rw [kind_ne1]
    exact h
  · intro o H' Q' _ h
    refine ⟨_, rfl, rfl, ?_⟩
    rw [kind_eq2]
    exact h
  refine ⟨_, rfl, b, rfl, ⟨_, .of (s1 _ _ hq1)⟩, fun D2 hD2 => lc_sel (fun o => !Vasedc.isPut o) (fun o => .bl (Vasedc.isDrop o)) (hq.mono s1) zq hD2 (fun _ _ => rfl) ?_ ?_ fun H2 s2 l2 => ?_⟩
  · intro o H' Q' h
    refine ⟨_, rfl, rfl, _, rfl, ?_⟩
    rw [kind_ne2]
    exact h
  · intro o H' Q' _ h
    refine ⟨_, rfl, rfl, ?_⟩
    rw [kind_eq1]
    exact h
  have s12 := s1.trans s2
  -- the two lists of truth values
  have e1 : (p.filter fun o => !Vasedc.isDrop o).map (fun o => V.bl (Vasedc.isPut o)) = (cameOf p).map V.bl := by unfold cameOf; rw [List.map_map]; rfl
  have e2 : (q.filter fun o => !Vasedc.isPut o).map (fun o => V.bl (Vasedc.isDrop o)) = (goesOf q).map V.bl := by unfold goesOf; rw [List.map_map]; rfl
  have ll : (cameOf p).length = (goesOf q).length := by
    unfold cameOf goesOf
    rw [List.length_map, List.length_map]
    exact e
  have lz : (cameOf p).length ≤ 10000 := by
    unfold cameOf
    rw [List.length_map]
    exact Nat.le_trans (List.length_filter_le _ _) zp
  rw [e1] at l1
  rw [e2] at l2
  refine ⟨_, rfl, _, rfl, D1, D2, _, _, rfl, .of (s2 _ _ l1), .of l2, fun D3 hD3 => lc_zip (by rw [List.length_map, List.length_map]; exact ll)
    (fun i H' => Same H2 H' ∧ H' D3 = some (.lst (List.replicate (diffs (((cameOf p).take i).zip ((goesOf q).take i))) (V.int 1)))) ⟨(Same.refl H2).new hD3, upd_same⟩ (fun i H' h => ⟨.of (h.1 _ _ (s2 _ _ l1)), .of (h.1 _ _ l2)⟩) ?_ ?_⟩
  · rintro i x y T H' hx hy ⟨s3, h3⟩ hT
    rw [List.getElem?_map] at hx hy
    obtain ⟨bx, ex, rfl⟩ := Option.map_eq_some_iff.mp hx
    obtain ⟨by', ey, rfl⟩ := Option.map_eq_some_iff.mp hy
    have tD : D3 ≠ T := fun z => by rw [z, hT] at h3; cases h3
    refine ⟨T, _, rfl, .of upd_same, rfl, _, _, rfl, _, _, rfl, rfl, rfl, ?_⟩
    refine ⟨_, rfl, _, rfl, rfl, _, rfl, ?_⟩
    have ed : (!decide (V.bl bx = V.bl by')) = (bx != by') := by cases bx <;> cases by' <;> rfl
    rw [ed]
    have step : diffs (((cameOf p).take (i + 1)).zip ((goesOf q).take (i + 1))) = diffs (((cameOf p).take i).zip ((goesOf q).take i)) + (if (bx != by') = true then 1 else 0) := by
      rw [take_snoc ex, take_snoc ey, List.zip_append (by rw [List.length_take, List.length_take, ll])]
      exact zip_diffs _ (bx, by')
    have h3' : upd H' T (.tup [V.bl bx, V.bl by']) D3 = some (.lst (List.replicate (diffs (((cameOf p).take i).zip ((goesOf q).take i))) (V.int 1))) := by rw [upd_ne tD]; exact h3
    have lb : diffs (((cameOf p).take i).zip ((goesOf q).take i)) ≤ 10000 := by
      have h := List.length_filter_le (fun x : Bool × Bool => x.1 != x.2) (((cameOf p).take i).zip ((goesOf q).take i))
      rw [List.length_zip, List.length_take] at h
      unfold diffs
      omega
    refine if_of (fun c => ?_) (fun c => ?_)
    · refine ⟨_, h3', small (by rw [List.length_replicate]; omega), (s3.new hT).mut hD3, ?_⟩
      rw [upd_same, step, if_pos c, List.replicate_succ']
    · refine ⟨s3.new hT, ?_⟩
      rw [step, if_neg (by rw [c]; exact Bool.false_ne_true)]
      exact h3'
  · rintro H3 ⟨s3, h3⟩
    rw [List.length_map, List.take_length, ll, List.take_length] at h3
    have s13 := s12.trans s3
    refine ⟨_, _, rfl, .inl ⟨_, .of h3, rfl⟩, ?_⟩
    refine ⟨_, rfl, ?_⟩
    refine ⟨_, rfl, a, rfl, ⟨_, .of (s13 _ _ hp1)⟩, fun D4 hD4 => lc_sel Vasedc.isDrop (fun _ => .int 1) (hp.mono s13) zp hD4 (fun _ _ => rfl) ?_ (fun o H' Q' _ h => h) fun H4 s4 l4 => ?_⟩
    · intro o H' Q' h
      refine ⟨_, rfl, rfl, _, rfl, ?_⟩
      rw [kind_eq1]
      exact h
    refine ⟨_, _, rfl, .inl ⟨_, .of l4, rfl⟩, _, _, rfl, rfl, ?_⟩
    have s14 := s13.trans s4
    refine ⟨_, rfl, b, rfl, ⟨_, .of (s14 _ _ hq1)⟩, fun D5 hD5 => lc_sel Vasedc.isPut (fun _ => .int 1) (hq.mono s14) zq hD5 (fun _ _ => rfl) ?_ (fun o H' Q' _ h => h) fun H5 s5 l5 => ?_⟩
    · intro o H' Q' h
      refine ⟨_, rfl, rfl, _, rfl, ?_⟩
      rw [kind_eq2]
      exact h
    refine ⟨_, _, rfl, .inl ⟨_, .of l5, rfl⟩, _, _, rfl, rfl, ?_⟩
    have z := k H5 (s14.trans s5)
    have e : (behind p q : Int) = ((List.replicate (diffs ((cameOf p).zip (goesOf q))) (V.int 1)).length : Int) + (((p.filter Vasedc.isDrop).map fun _ => V.int 1).length : Int) + (((q.filter Vasedc.isPut).map fun _ => V.int 1).length : Int) := by
      rw [List.length_replicate, List.length_map, List.length_map]
      unfold behind
      omega
    rw [e] at z
    exact z
end
end Lp
end
section
set_option maxHeartbeats 4000000
/-! ### plain makings of objects; changes -/
namespace Lp
open PySem PySem.Spec PyProof.Rows L2
open PySem.W (Frag)
open Vaseda (Line Text)
open Vasedc (Op Patch Hunk)
theorem _root_.L2.Same.but {H H' : Hp} {x dx : Addr} {o o2 : HO} (hx : H x = none) (hd : H dx = none) (s : Sbut x (upd (upd H dx o) x o2) H') : Same H H' := fun a u e => by
  have n1 : a ≠ x := fun z => by rw [z, hx] at e; cases e
  have n2 : a ≠ dx := fun z => by rw [z, hd] at e; cases e
  exact s a u (by rw [upd_ne n1, upd_ne n2]; exact e) n1
theorem putF_len (f : Str) (v : V) : ∀ fs : List (Str × V), (putF f v fs).length ≤ fs.length + 1
  | [] => Nat.le_refl _
  | (g, x) :: r => by
    have ih := putF_len f v r
    rw [putF]
    split
    · exact Nat.le_succ _
    · show (putF f v r).length + 1 ≤ r.length + 1 + 1
      omega
theorem putF_lt {f : Str} {v : V} {fs : List (Str × V)} {n : Nat} (h : fs.length < n) : (putF f v fs).length < n + 1 := Nat.lt_succ_of_le (Nat.le_trans (putF_len f v fs) h)
section
variable {P : Program} {w : World} {K : Frag} {mg : Str → Option Value} {base : Heap}
abbrev s_Change_init : Stmt := inClass (topS 12) 0
theorem sc_Change_init : FnScope ["self", "place", "before", "outs", "ins", "behind"] ["self", "place", "before", "outs", "ins", "behind"] (defScope s_Change_init) := ⟨rfl, rfl, rfl, by decide +kernel, rfl, by decide +kernel, by decide +kernel⟩
def spNewChange (K : Frag) : Sp := fun vs H Q _ => ∃ (x dx : Addr) (v_place v_before v_outs v_ins v_behind : V), vs = [.ref x, v_place, v_before, v_outs, v_ins, v_behind] ∧ H x = some (.ins (cA K "Change") dx []) ∧ ∀ (H' : Hp), Sbut x H H' → H' x = some (.ins (cA K "Change") dx (F_Change v_place v_before v_outs v_ins v_behind)) → Q .non H'
theorem ok_new_Change (A : FnCl K mg "Change" (cA K "Change") "Change.__init__" s_Change_init ["self", "place", "before", "outs", "ins", "behind"]) (T : Txt K mg) : Dc P w K mg base 1 "Change" (cA K "Change") ["self", "place", "before", "outs", "ins", "behind"] (spNewChange K) := A.dc fun f fd F => by
  refine ok0 F sc_Change_init (fun vs H Q E h => ?_) (fun cdv A outer s H vs Q E hr h => ?_)
  · obtain ⟨x, dx, v_place, v_before, v_outs, v_ins, v_behind, rfl, _⟩ := h
    rfl
  obtain ⟨x, dx, v_place, v_before, v_outs, v_ins, v_behind, rfl, hx, k⟩ := h
  refine ⟨_, (pss_cons (ps_fld (pv 0) (pv 1) rfl)
      (pss_cons (ps_fld (pv 0) (pv 2) rfl)
      (pss_cons (ps_fld (pv 0) (pv 3) rfl)
      (pss_cons (ps_fld (pv 0) (pv 4) rfl)
      (pss_one (ps_fld (pv 0) (pv 5) rfl)))))), ?_⟩
  refine ⟨_, rfl, _, rfl, x, _, dx, _, rfl, hx, T.cl_Change, T.na_Change_place, (by decide), ?_⟩
  refine ⟨_, rfl, _, rfl, x, _, dx, _, rfl, upd_same, T.cl_Change, T.na_Change_before, putF_lt ((by decide)), ?_⟩
  refine ⟨_, rfl, _, rfl, x, _, dx, _, rfl, upd_same, T.cl_Change, T.na_Change_outs, putF_lt (putF_lt ((by decide))), ?_⟩
  refine ⟨_, rfl, _, rfl, x, _, dx, _, rfl, upd_same, T.cl_Change, T.na_Change_ins, putF_lt (putF_lt (putF_lt ((by decide)))), ?_⟩
  refine ⟨_, rfl, _, rfl, x, _, dx, _, rfl, upd_same, T.cl_Change, T.na_Change_behind, putF_lt (putF_lt (putF_lt (putF_lt ((by decide))))), ?_⟩
  refine k _ ?_ (by rw [upd_same, new_Change])
  exact Sbut.upd (Sbut.upd (Sbut.upd (Sbut.upd (Sbut.upd ((Sbut.refl x H))))))

abbrev s_Command_init : Stmt := inClass (topS 62) 0
theorem sc_Command_init : FnScope ["self", "address", "word", "letters", "number"] ["self", "address", "word", "letters", "number"] (defScope s_Command_init) := ⟨rfl, rfl, rfl, by decide +kernel, rfl, by decide +kernel, by decide +kernel⟩
def spNewCommand (K : Frag) : Sp := fun vs H Q _ => ∃ (x dx : Addr) (v_address v_word v_letters v_number : V), vs = [.ref x, v_address, v_word, v_letters, v_number] ∧ H x = some (.ins (cA K "Command") dx []) ∧ ∀ (H' : Hp), Sbut x H H' → H' x = some (.ins (cA K "Command") dx (F_Command v_address v_word v_letters v_number)) → Q .non H'
theorem ok_new_Command (A : FnCl K mg "Command" (cA K "Command") "Command.__init__" s_Command_init ["self", "address", "word", "letters", "number"]) (T : Txt K mg) : Dc P w K mg base 1 "Command" (cA K "Command") ["self", "address", "word", "letters", "number"] (spNewCommand K) := A.dc fun f fd F => by
  refine ok0 F sc_Command_init (fun vs H Q E h => ?_) (fun cdv A outer s H vs Q E hr h => ?_)
  · obtain ⟨x, dx, v_address, v_word, v_letters, v_number, rfl, _⟩ := h
    rfl
  obtain ⟨x, dx, v_address, v_word, v_letters, v_number, rfl, hx, k⟩ := h
  refine ⟨_, (pss_cons (ps_fld (pv 0) (pv 1) rfl)
      (pss_cons (ps_fld (pv 0) (pv 2) rfl)
      (pss_cons (ps_fld (pv 0) (pv 3) rfl)
      (pss_one (ps_fld (pv 0) (pv 4) rfl))))), ?_⟩
  refine ⟨_, rfl, _, rfl, x, _, dx, _, rfl, hx, T.cl_Command, T.na_Command_address, (by decide), ?_⟩
  refine ⟨_, rfl, _, rfl, x, _, dx, _, rfl, upd_same, T.cl_Command, T.na_Command_word, putF_lt ((by decide)), ?_⟩
  refine ⟨_, rfl, _, rfl, x, _, dx, _, rfl, upd_same, T.cl_Command, T.na_Command_letters, putF_lt (putF_lt ((by decide))), ?_⟩
  refine ⟨_, rfl, _, rfl, x, _, dx, _, rfl, upd_same, T.cl_Command, T.na_Command_number, putF_lt (putF_lt (putF_lt ((by decide)))), ?_⟩
  refine k _ ?_ (by rw [upd_same, new_Command])
  exact Sbut.upd (Sbut.upd (Sbut.upd (Sbut.upd ((Sbut.refl x H)))))

abbrev s_Address_init : Stmt := inClass (topS 61) 0
theorem sc_Address_init : FnScope ["self", "word", "letters", "low", "high"] ["self", "word", "letters", "low", "high"] (defScope s_Address_init) := ⟨rfl, rfl, rfl, by decide +kernel, rfl, by decide +kernel, by decide +kernel⟩
def spNewAddress (K : Frag) : Sp := fun vs H Q _ => ∃ (x dx : Addr) (v_word v_letters v_low v_high : V), vs = [.ref x, v_word, v_letters, v_low, v_high] ∧ H x = some (.ins (cA K "Address") dx []) ∧ ∀ (H' : Hp), Sbut x H H' → H' x = some (.ins (cA K "Address") dx (F_Address v_word v_letters v_low v_high (.int 0))) → Q .non H'
theorem ok_new_Address (A : FnCl K mg "Address" (cA K "Address") "Address.__init__" s_Address_init ["self", "word", "letters", "low", "high"]) (T : Txt K mg) : Dc P w K mg base 1 "Address" (cA K "Address") ["self", "word", "letters", "low", "high"] (spNewAddress K) := A.dc fun f fd F => by
  refine ok0 F sc_Address_init (fun vs H Q E h => ?_) (fun cdv A outer s H vs Q E hr h => ?_)
  · obtain ⟨x, dx, v_word, v_letters, v_low, v_high, rfl, _⟩ := h
    rfl
  obtain ⟨x, dx, v_word, v_letters, v_low, v_high, rfl, hx, k⟩ := h
  refine ⟨_, (pss_cons (ps_fld (pv 0) (pv 1) rfl)
      (pss_cons (ps_fld (pv 0) (pv 2) rfl)
      (pss_cons (ps_fld (pv 0) (pv 3) rfl)
      (pss_cons (ps_fld (pv 0) (pv 4) rfl)
      (pss_one (ps_fld (pv 0) pe_int rfl)))))), ?_⟩
  refine ⟨_, rfl, _, rfl, x, _, dx, _, rfl, hx, T.cl_Address, T.na_Address_word, (by decide), ?_⟩
  refine ⟨_, rfl, _, rfl, x, _, dx, _, rfl, upd_same, T.cl_Address, T.na_Address_letters, putF_lt ((by decide)), ?_⟩
  refine ⟨_, rfl, _, rfl, x, _, dx, _, rfl, upd_same, T.cl_Address, T.na_Address_low, putF_lt (putF_lt ((by decide))), ?_⟩
  refine ⟨_, rfl, _, rfl, x, _, dx, _, rfl, upd_same, T.cl_Address, T.na_Address_high, putF_lt (putF_lt (putF_lt ((by decide)))), ?_⟩
  refine ⟨_, rfl, x, _, dx, _, rfl, upd_same, T.cl_Address, T.na_Address_nots, putF_lt (putF_lt (putF_lt (putF_lt ((by decide))))), ?_⟩
  refine k _ ?_ (by rw [upd_same, new_Address])
  exact Sbut.upd (Sbut.upd (Sbut.upd (Sbut.upd (Sbut.upd ((Sbut.refl x H))))))

abbrev s_Reader_init : Stmt := inClass (topS 63) 0
theorem sc_Reader_init : FnScope ["self", "tokens"] ["self", "tokens"] (defScope s_Reader_init) := ⟨rfl, rfl, rfl, by decide +kernel, rfl, by decide +kernel, by decide +kernel⟩
def spNewReader (K : Frag) : Sp := fun vs H Q _ => ∃ (x dx : Addr) (v_tokens : V), vs = [.ref x, v_tokens] ∧ H x = some (.ins (cA K "Reader") dx []) ∧ ∀ (H' : Hp), Sbut x H H' → H' x = some (.ins (cA K "Reader") dx (F_Reader v_tokens (.int 0))) → Q .non H'
theorem ok_new_Reader (A : FnCl K mg "Reader" (cA K "Reader") "Reader.__init__" s_Reader_init ["self", "tokens"]) (T : Txt K mg) : Dc P w K mg base 1 "Reader" (cA K "Reader") ["self", "tokens"] (spNewReader K) := A.dc fun f fd F => by
  refine ok0 F sc_Reader_init (fun vs H Q E h => ?_) (fun cdv A outer s H vs Q E hr h => ?_)
  · obtain ⟨x, dx, v_tokens, rfl, _⟩ := h
    rfl
  obtain ⟨x, dx, v_tokens, rfl, hx, k⟩ := h
  refine ⟨_, (pss_cons (ps_fld (pv 0) (pv 1) rfl)
      (pss_one (ps_fld (pv 0) pe_int rfl))), ?_⟩
  refine ⟨_, rfl, _, rfl, x, _, dx, _, rfl, hx, T.cl_Reader, T.na_Reader_tokens, (by decide), ?_⟩
  refine ⟨_, rfl, x, _, dx, _, rfl, upd_same, T.cl_Reader, T.na_Reader_at, putF_lt ((by decide)), ?_⟩
  refine k _ ?_ (by rw [upd_same, new_Reader])
  exact Sbut.upd (Sbut.upd ((Sbut.refl x H)))

abbrev s_Desk_init : Stmt := inClass (topS 101) 0
theorem sc_Desk_init : FnScope ["self"] ["self"] (defScope s_Desk_init) := ⟨rfl, rfl, rfl, by decide +kernel, rfl, by decide +kernel, by decide +kernel⟩
def spNewDesk (K : Frag) : Sp := fun vs H Q _ => ∃ (x dx : Addr), vs = [.ref x] ∧ H x = some (.ins (cA K "Desk") dx []) ∧ ∀ (H' : Hp), Sbut x H H' → H' x = some (.ins (cA K "Desk") dx (F_Desk .non)) → Q .non H'
theorem ok_new_Desk (A : FnCl K mg "Desk" (cA K "Desk") "Desk.__init__" s_Desk_init ["self"]) (T : Txt K mg) : Dc P w K mg base 1 "Desk" (cA K "Desk") ["self"] (spNewDesk K) := A.dc fun f fd F => by
  refine ok0 F sc_Desk_init (fun vs H Q E h => ?_) (fun cdv A outer s H vs Q E hr h => ?_)
  · obtain ⟨x, dx, rfl, _⟩ := h
    rfl
  obtain ⟨x, dx, rfl, hx, k⟩ := h
  refine ⟨_, (pss_one (ps_fld (pv 0) pe_non rfl)), ?_⟩
  refine ⟨_, rfl, x, _, dx, _, rfl, hx, T.cl_Desk, T.na_Desk_commands, (by decide), ?_⟩
  refine k _ ?_ (by rw [upd_same, new_Desk])
  exact Sbut.upd ((Sbut.refl x H))

/-- a change at an address -/
def ChAt (K : Frag) (H : Hp) (a : Addr) (h : Hunk) : Prop := ∃ dx b1 b2 b3 b4, H a = some (.ins (cA K "Change") dx (F_Change (.int (h.at_ : Nat)) (.ref b1) (.ref b2) (.ref b3) (.ref b4))) ∧
  H b1 = some (.lst (vT h.ahead)) ∧ H b2 = some (.lst (vT h.old)) ∧ H b3 = some (.lst (vT h.new)) ∧ H b4 = some (.lst (vT h.rest))
theorem ChAt.mono {H H' : Hp} {a : Addr} {h : Hunk} (s : Same H H') : ChAt K H a h → ChAt K H' a h := fun ⟨dx, b1, b2, b3, b4, h1, h2, h3, h4, h5⟩ => ⟨dx, b1, b2, b3, b4, s _ _ h1, s _ _ h2, s _ _ h3, s _ _ h4, s _ _ h5⟩
theorem dpT (K : Frag) (H : Hp) : ∀ t : Text, DpAll K H (vT t) (t.map fun x => PyData.str (sOf x))
  | [] => .nil
  | x :: t => .cons (.str _) (dpT K H t)
theorem canT : ∀ t : Text, PyData.canLayAll0 (t.map fun x => PyData.str (sOf x)) = true
  | [] => rfl
  | x :: t => by
    show (PyData.strOk (sOf x) && PyData.canLayAll0 _) = true
    rw [canT t, Bool.and_true]
    unfold PyData.strOk
    rw [Array.all_eq_true']
    intro c hc
    have hc : c ∈ x.map UInt8.toNat := by simpa [sOf] using hc
    obtain ⟨b, _, rfl⟩ := List.mem_map.mp hc
    have := b.toNat_lt
    exact decide_eq_true (by omega)
theorem depT : ∀ t : Text, PyData.depthAll (t.map fun x => PyData.str (sOf x)) ≤ 1
  | [] => by decide
  | x :: t => by
    have := depT t
    show max (PyData.depth (.str (sOf x))) (PyData.depthAll _) ≤ 1
    exact Nat.max_le.mpr ⟨Nat.zero_le _, this⟩
theorem shT (t : Text) : SeqAt.shaped (.list (t.map fun x => PyData.str (sOf x))) = true := by
  unfold SeqAt.shaped
  rw [Bool.and_eq_true]
  refine ⟨canT t, decide_eq_true ?_⟩
  have := depT t
  show PyData.depthAll _ + 1 ≤ 64
  omega
theorem eqvT : ∀ s t : Text, PyData.eqvAll (s.map fun x => PyData.str (sOf x)) (t.map fun x => PyData.str (sOf x)) = decide (s = t)
  | [], [] => rfl
  | [], _ :: _ => rfl
  | _ :: _, [] => rfl
  | x :: s, y :: t => by
    show (PyData.eqv (.str (sOf x)) (.str (sOf y)) && PyData.eqvAll _ _) = _
    rw [eqvT s t]
    have e : PyData.eqv (.str (sOf x)) (.str (sOf y)) = decide (x = y) := by
      show (sOf x == sOf y) = _
      rw [Bool.eq_iff_iff, beq_iff_eq, decide_eq_true_iff, sOf_eq]
    rw [e]
    by_cases h1 : x = y <;> by_cases h2 : s = t <;> simp [h1, h2]
theorem cutV_any (xs : List V) (i j : Nat) (h : i ≤ xs.length) : cutV xs (some (i : Int)) (some (j : Int)) = (xs.drop i).take (j - i) := by
  unfold cutV
  rw [HT.sIx_nat, HT.sIx_nat, Nat.min_eq_left h]
  by_cases c : j ≤ xs.length
  · rw [Nat.min_eq_left c]
  · rw [Nat.min_eq_right (by omega), List.take_of_length_le (by rw [List.length_drop]; omega), List.take_of_length_le (by rw [List.length_drop]; omega)]
abbrev s_Change_stands_at : Stmt := inClass (topS 12) 1
theorem sc_Change_stands_at : FnScope ["self", "lines", "at", "begin", "whole"] ["self", "lines", "at"] (defScope s_Change_stands_at) := ⟨rfl, rfl, rfl, by decide +kernel, rfl, by decide +kernel, by decide +kernel⟩
def spStands (K : Frag) : Sp := fun vs H Q _ => ∃ (a b : Addr) (h : Hunk) (t : Text) (i : Nat), vs = [.ref a, .ref b, .int (i : Nat)] ∧ ChAt K H a h ∧ H b = some (.lst (vT t)) ∧ i ≤ t.length ∧ t.length ≤ 1000 ∧ h.ahead.length + h.old.length + h.rest.length ≤ 100000 ∧
  ∀ H', Same H H' → Q (.bl (Vasedc.standsAt t h i)) H'
theorem ok_stands_at (A : FnMt K (cA K "Change") "stands_at" "Change.stands_at" s_Change_stands_at ["self", "lines", "at"]) (T : Txt K mg) : Dm P w K mg base CX0 1 (cA K "Change") "stands_at" ["self", "lines", "at"] (spStands K) := A.dm fun f fd F => by
  refine ok0 F sc_Change_stands_at (fun vs H Q E h => ?_) (fun cdv A outer s H vs Q E hr h => ?_)
  · obtain ⟨a, b, h, t, i, rfl, _⟩ := h
    rfl
  obtain ⟨a, b, h, t, i, rfl, hc, ht, hi, ht1, hz, k⟩ := h
  obtain ⟨dx, b1, b2, b3, b4, h0, h1, h2, h3, h4⟩ := id hc
  refine ⟨_, (pss_cons (ps_set (i := 3) sc_Change_stands_at.nd rfl (Or.inl rfl) (pe_op op_sub (pv 2) (pe_callB call_len (by rfl) T.f_len PySem.boot_len (pa_cons (pe_fld (pv 0) rfl) pa_nil))))
      (pss_cons (ps_set (i := 4) sc_Change_stands_at.nd rfl (Or.inl rfl) (pe_op op_cat (pe_op op_cat (pe_fld (pv 0) rfl) (pe_fld (pv 0) rfl)) (pe_fld (pv 0) rfl)))
      (pss_one (ps_ret (pe_and (pe_cmpR op_ge (pv 3) pe_int (nomark _)) (pe_one (pe_cmpR (op_eqD hr.units) (pe_slice sl_list (pv 1) (po_some (pv 3)) (po_some (pe_op op_add (pv 3) (pe_callB call_len (by rfl) T.f_len PySem.boot_len (pa_cons (pv 4) pa_nil))))) (pv 4) (nomark _)))))))), ?_⟩
  refine ⟨_, rfl, _, rfl, a, _, dx, _, _, rfl, h0, T.cl_Change, T.na_Change_before, lk_Change_before, _, h.ahead.length, rfl, .inl ⟨_, .of h1, vT_len.symm⟩, _, _, rfl, rfl, ?_⟩
  refine ⟨_, rfl, a, _, dx, _, _, rfl, h0, T.cl_Change, T.na_Change_before, lk_Change_before, _, rfl, a, _, dx, _, _, rfl, h0, T.cl_Change, T.na_Change_outs, lk_Change_outs, ?_⟩
  refine ⟨b1, b2, _, _, rfl, rfl, h1, h2, small' (by rw [vT_len, vT_len]; omega), fun p hp => ?_⟩
  have s1 : Same H (upd H p (.lst (vT h.ahead ++ vT h.old))) := (Same.refl H).new hp
  refine ⟨_, rfl, a, _, dx, _, _, rfl, s1 _ _ h0, T.cl_Change, T.na_Change_behind, lk_Change_behind, ?_⟩
  refine ⟨p, b4, _, _, rfl, rfl, upd_same, s1 _ _ h4, small' (by rw [List.length_append, vT_len, vT_len, vT_len]; omega), fun q hq => ?_⟩
  have s2 := s1.new (o := .lst (vT h.ahead ++ vT h.old ++ vT h.rest)) hq
  refine ⟨_, rfl, _, _, rfl, rfl, _, rfl, ?_⟩
  have e0 : Vasedc.standsAt t h i = (decide (h.ahead.length ≤ i) && (let l := h.ahead ++ (h.old ++ h.rest); (t.drop (i - h.ahead.length)).take l.length == l)) := rfl
  refine if_of (fun c => ?_) (fun c => ?_)
  · have c := of_decide_eq_true c
    have c' : h.ahead.length ≤ i := by omega
    have el : vT h.ahead ++ vT h.old ++ vT h.rest = vT (h.ahead ++ (h.old ++ h.rest)) := by simp [vT]
    refine ⟨_, rfl, _, rfl, _, rfl, _, rfl, _, rfl, _, (h.ahead ++ (h.old ++ h.rest)).length, rfl, .inl ⟨_, .of upd_same, by rw [el, vT_len]⟩, _, _, rfl, rfl, _, rfl, b, _, rfl, .of (s2 _ _ ht), fun r hr' => ?_⟩
    refine ⟨_, rfl, ?_⟩
    have hp' : Same H (upd (upd (upd H p (.lst (vT h.ahead ++ vT h.old))) q (.lst (vT h.ahead ++ vT h.old ++ vT h.rest))) r (.lst (cutV (vT t) (some ((i : Int) - (h.ahead.length : Int))) (some ((i : Int) - (h.ahead.length : Int) + ((h.ahead ++ (h.old ++ h.rest)).length : Int)))))) := s2.new hr'
    have qr : q ≠ r := fun z => by rw [← z, upd_same] at hr'; cases hr'
    have ei : (i : Int) - (h.ahead.length : Int) = ((i - h.ahead.length : Nat) : Int) := by omega
    have ej : (i : Int) - (h.ahead.length : Int) + ((h.ahead ++ (h.old ++ h.rest)).length : Int) = ((i - h.ahead.length + (h.ahead ++ (h.old ++ h.rest)).length : Nat) : Int) := by omega
    have ec : cutV (vT t) (some ((i : Int) - (h.ahead.length : Int))) (some ((i : Int) - (h.ahead.length : Int) + ((h.ahead ++ (h.old ++ h.rest)).length : Int))) = vT ((t.drop (i - h.ahead.length)).take (h.ahead ++ (h.old ++ h.rest)).length) := by
      rw [ej, ei, cutV_any _ _ _ (by rw [vT_len]; omega), Nat.add_sub_cancel_left]
      simp [vT, List.map_drop, List.map_take]
    refine ⟨_, _, .lst (.of upd_same) (by rw [ec]; exact dpT K _ _), .lst (.of (by rw [upd_ne qr, upd_same, el])) (dpT K _ _), shT _, shT _, ?_⟩
    have z := k _ hp'
    rw [e0, decide_eq_true c', Bool.true_and] at z
    show Q (.bl (PyData.eqvAll _ _)) _
    rw [eqvT]
    have e3 : decide ((t.drop (i - h.ahead.length)).take (h.ahead ++ (h.old ++ h.rest)).length = h.ahead ++ (h.old ++ h.rest)) = (let l := h.ahead ++ (h.old ++ h.rest); (t.drop (i - h.ahead.length)).take l.length == l) := by
      rw [Bool.eq_iff_iff, decide_eq_true_iff, beq_iff_eq]
    rw [e3]
    exact z
  · have c := of_decide_eq_false c
    have z := k _ s2
    rw [e0, decide_eq_false (by omega : ¬ h.ahead.length ≤ i)] at z
    exact z
end
end Lp
end
section
set_option maxHeartbeats 4000000
/-! ### rows of marks -/
namespace PySem
theorem Paired.snoc_inv {α β : Type} {F : α → β → Prop} : ∀ {l : List α} {x : α} {r : List β}, Paired F (l ++ [x]) r → ∃ r' z, r = r' ++ [z] ∧ Paired F l r' ∧ F x z
  | [], x, r, h => by
    cases h with
    | cons h1 h2 =>
      cases h2
      exact ⟨[], _, rfl, .nil, h1⟩
  | y :: l, x, r, h => by
    cases h with
    | cons h1 h2 =>
      obtain ⟨r', z, e, h3, h4⟩ := Paired.snoc_inv h2
      exact ⟨_ :: r', z, by rw [e]; rfl, .cons h1 h3, h4⟩
end PySem
namespace Lp
open PySem PySem.Spec PyProof.Rows L2
open PySem.W (Frag)
open Vaseda (Line Text)
open Vasedc (Op Patch Hunk)
/-- texts, patches at the addresses that a list holds -/
def LTx (H : Hp) (a : Addr) (ls : List Text) : Prop := ∃ as, H a = some (.lst (as.map V.ref)) ∧ Paired (fun (t : Text) x => H x = some (.lst (vT t))) ls as
def LMk (H : Hp) (a : Addr) (ls : List Patch) : Prop := ∃ as, H a = some (.lst (as.map V.ref)) ∧ Paired (fun (p : Patch) x => MkAt H x p) ls as
theorem LTx.mono {H H' : Hp} {a : Addr} {ls : List Text} (s : Same H H') : LTx H a ls → LTx H' a ls := fun ⟨as, h1, h2⟩ => ⟨as, s _ _ h1, Paired.mapP h2 fun _ _ e => s _ _ e⟩
theorem LMk.mono {H H' : Hp} {a : Addr} {ls : List Patch} (s : Same H H') : LMk H a ls → LMk H' a ls := fun ⟨as, h1, h2⟩ => ⟨as, s _ _ h1, Paired.mapP h2 fun _ _ e => MkAt.mono s e⟩
structure RB (n : Nat) (s : Rows) : Prop where
  k1 : s.ks.length ≤ n + 1
  o1 : s.os.length ≤ n
  k2 : ∀ k ∈ s.ks, k.length ≤ n
  o2 : ∀ o ∈ s.os, o.length ≤ n
  k0 : s.ks ≠ []
  o0 : s.was = false → s.os ≠ []
/-- what a kept mark does, what another one does: to the row that's last by then -/
theorem keep_shape (s : Rows) (h : s.ks ≠ []) (x : Line) : ∃ ks' k', s.ks ++ (if s.was = true then [] else [[]]) = ks' ++ [k'] ∧ addKeep s x = ⟨ks' ++ [k' ++ [x]], s.os, true⟩ := by
  have hn : s.ks ++ (if s.was = true then [] else [[]]) ≠ [] := fun e => h (List.append_eq_nil_iff.mp e).1
  refine ⟨_, _, (List.dropLast_concat_getLast hn).symm, ?_⟩
  unfold addKeep
  generalize hh : s.ks ++ (if s.was = true then [] else [[]]) = l at hn ⊢
  obtain ⟨l', y, rfl⟩ : ∃ l' y, l = l' ++ [y] := ⟨_, _, (List.dropLast_concat_getLast hn).symm⟩
  simp [setLast_snoc]
theorem other_shape (s : Rows) (h : s.was = false → s.os ≠ []) (o : Op) : ∃ os' o', s.os ++ (if s.was = true then [[]] else []) = os' ++ [o'] ∧ addOther s o = ⟨s.ks, os' ++ [o' ++ [o]], false⟩ := by
  have hn : s.os ++ (if s.was = true then [[]] else []) ≠ [] := fun e => by
    obtain ⟨e1, e2⟩ := List.append_eq_nil_iff.mp e
    cases hw : s.was with
    | true => rw [hw] at e2; simp at e2
    | false => exact h hw e1
  refine ⟨_, _, (List.dropLast_concat_getLast hn).symm, ?_⟩
  unfold addOther
  generalize hh : s.os ++ (if s.was = true then [[]] else []) = l at hn ⊢
  obtain ⟨l', y, rfl⟩ : ∃ l' y, l = l' ++ [y] := ⟨_, _, (List.dropLast_concat_getLast hn).symm⟩
  simp [setLast_snoc]
theorem RB.keep {n : Nat} {s : Rows} (b : RB n s) (x : Line) : RB (n + 1) (addKeep s x) := by
  obtain ⟨ks', k', e, e2⟩ := keep_shape s b.k0 x
  rw [e2]
  have hl := congrArg List.length e
  have l3 : (if s.was = true then [] else [([] : Text)]).length ≤ 1 := by split <;> simp
  have b1 := b.k1
  have b2 := b.o1
  rw [List.length_append, List.length_append, List.length_singleton] at hl
  have mem : ∀ k ∈ ks' ++ [k'], k.length ≤ n := fun k hk => by
    rw [← e] at hk
    rcases List.mem_append.mp hk with h | h
    · exact b.k2 k h
    · cases hw : s.was <;> rw [hw] at h <;> simp at h
      rw [h]
      exact Nat.zero_le _
  refine ⟨by show (ks' ++ [k' ++ [x]]).length ≤ _; simp only [List.length_append, List.length_singleton]; omega, by show s.os.length ≤ _; omega, fun k hk => ?_, fun o ho => Nat.le_succ_of_le (b.o2 o ho), by simp, fun z => by cases z⟩
  rcases List.mem_append.mp hk with h | h
  · exact Nat.le_succ_of_le (mem k (List.mem_append_left _ h))
  · have := mem k' (by simp)
    rw [List.mem_singleton.mp h, List.length_append, List.length_singleton]
    omega
theorem RB.other {n : Nat} {s : Rows} (b : RB n s) (o : Op) : RB (n + 1) (addOther s o) := by
  obtain ⟨os', o', e, e2⟩ := other_shape s b.o0 o
  rw [e2]
  have hl := congrArg List.length e
  have l3 : (if s.was = true then [([] : Patch)] else []).length ≤ 1 := by split <;> simp
  have b1 := b.k1
  have b2 := b.o1
  rw [List.length_append, List.length_append, List.length_singleton] at hl
  have mem : ∀ k ∈ os' ++ [o'], k.length ≤ n := fun k hk => by
    rw [← e] at hk
    rcases List.mem_append.mp hk with h | h
    · exact b.o2 k h
    · cases hw : s.was <;> rw [hw] at h <;> simp at h
      rw [h]
      exact Nat.zero_le _
  refine ⟨by show s.ks.length ≤ _; omega, by show (os' ++ [o' ++ [o]]).length ≤ _; simp only [List.length_append, List.length_singleton]; omega, fun k hk => Nat.le_succ_of_le (b.k2 k hk), fun k hk => ?_, b.k0, fun _ => by simp⟩
  rcases List.mem_append.mp hk with h | h
  · exact Nat.le_succ_of_le (mem k (List.mem_append_left _ h))
  · have := mem o' (by simp)
    rw [List.mem_singleton.mp h, List.length_append, List.length_singleton]
    omega
theorem RB.step {n : Nat} {s : Rows} (b : RB n s) (o : Op) : RB (n + 1) (rowStep s o) := by
  unfold rowStep
  split
  · exact b.keep _
  · exact b.other _
theorem RB.run (p : Patch) : RB p.length (rowRun p) := by
  have h : ∀ (p : Patch) (n : Nat) (s : Rows), RB n s → RB (n + p.length) (p.foldl rowStep s) := by
    intro p
    induction p with
    | nil => exact fun n s b => b
    | cons o p ih =>
      intro n s b
      have := ih (n + 1) _ (b.step o)
      rw [show n + (o :: p).length = n + 1 + p.length from by rw [List.length_cons]; omega]
      exact this
  have := h p 0 ⟨[[]], [], true⟩ ⟨by simp, by simp, by simp, by simp, by simp, fun z => by cases z⟩
  rw [Nat.zero_add] at this
  exact this
theorem rowRun_snoc (p : Patch) (o : Op) : rowRun (p ++ [o]) = rowStep (rowRun p) o := by
  unfold rowRun
  rw [List.foldl_append]
  rfl
theorem rep01 {α : Type} (b : Bool) (xs : List α) : (List.replicate (if b = true then (1 : Int) else 0).toNat xs).flatten = if b = true then xs else [] := by
  cases b with
  | true => simp
  | false => simp
/-- a list of rows with one more if b, in new lists -/
theorem rows_more {α : Type} {F : Hp → α → Addr → Prop} {H H' : Hp} {as : List Addr} {ls : List α} {e : Addr} {b : Bool} {emp : α} (h : Paired (F H) ls as) (hm : ∀ x a, F H x a → F H' x a) (he : F H' emp e) :
    Paired (F H') (ls ++ (if b = true then [emp] else [])) (as ++ (if b = true then [e] else [])) := by
  cases b with
  | true => exact Paired.app (Paired.mapP h hm) (.cons he .nil)
  | false => exact Paired.app (Paired.mapP h hm) .nil
theorem atI_snoc {α : Type} (xs : List α) (v : α) : atI (xs ++ [v]) (-1) = some v := atI_last xs v
theorem ixN_last {n : Nat} : ixN (n + 1) (-1) = some n := by
  unfold ixN
  rw [if_neg (by omega), if_pos (by omega)]
  congr 1
  omega
theorem set_last {α : Type} (xs : List α) (x y : α) : (xs ++ [x]).set xs.length y = xs ++ [y] := by
  rw [List.set_append_right _ _ (Nat.le_refl _), Nat.sub_self]
  rfl
section
variable {P : Program} {w : World} {K : Frag} {mg : Str → Option Value} {base : Heap}
abbrev s_rows_of : Stmt := topS 13
theorem sc_rows_of : FnScope ["marks", "kept", "others", "was_kept", "kind", "line"] ["marks"] (defScope s_rows_of) := ⟨rfl, rfl, rfl, by decide +kernel, rfl, by decide +kernel, by decide +kernel⟩
def spRows : Sp := fun vs H Q _ => ∃ (a : Addr) (p : Patch), vs = [.ref a] ∧ MkAt H a p ∧ p.length ≤ 10000 ∧ ∀ r ka oa H', Same H H' → H' r = some (.tup [.ref ka, .ref oa]) → LTx H' ka (rowsOf p).1 → LMk H' oa (rowsOf p).2 → Q (.ref r) H'
theorem ok_rows_of (A : FnAt K mg "rows_of" s_rows_of ["marks"]) (T : Txt K mg) : Dn P w K mg base CX0 1 "rows_of" ["marks"] spRows := A.dn fun f fd F => by
  refine ok0 F sc_rows_of (fun vs H Q E h => ?_) (fun cdv A outer s H vs Q E hr h => ?_)
  · obtain ⟨a, p, rfl, _⟩ := h
    rfl
  obtain ⟨a, p, rfl, hm, hz, k⟩ := h
  obtain ⟨ts0, h1, _⟩ := id hm
  refine ⟨_, (pss_cons (ps_set (i := 1) sc_rows_of.nd rfl (Or.inl rfl) (pe_lst (pa_cons (pe_lst pa_nil) pa_nil)))
      (pss_cons (ps_set (i := 2) sc_rows_of.nd rfl (Or.inl rfl) (pe_lst pa_nil))
      (pss_cons (ps_set (i := 3) sc_rows_of.nd rfl (Or.inl rfl) pe_bl)
      (pss_cons (ps_for PassesOwn.never rfl (pi_list (pv 0)) (pg_tup (by rfl) (pgs_cons (pg_name (i := 4) sc_rows_of.nd rfl (Or.inl rfl)) (pgs_cons (pg_name (i := 5) sc_rows_of.nd rfl (Or.inl rfl)) pgs_nil)))
      (pss_cons (ps_if (pt_cmpR op_eq (pv 4) (pe_gint T.g_KEPT) (nomark _))
      (pss_cons (ps_set (i := 1) sc_rows_of.nd rfl (Or.inl rfl) (pe_op op_cat (pv 1) (pe_op op_rep (pe_lst (pa_cons (pe_lst pa_nil) pa_nil)) (pe_callTy call_int1 (by rfl) T.f_int (by decide +kernel) (pa_cons (pe_not (pv 3)) pa_nil)))))
      (pss_one (ps_asg (pe_op op_cat (pe_ix ix_list (pv 1) (pe_un un_neg pe_int) (fun _ _ => rfl)) (pe_lst (pa_cons (pv 5) pa_nil))) (pg_sub (pv 1) (pe_un un_neg pe_int) set_list))))
      (pss_cons (ps_set (i := 2) sc_rows_of.nd rfl (Or.inl rfl) (pe_op op_cat (pv 2) (pe_op op_rep (pe_lst (pa_cons (pe_lst pa_nil) pa_nil)) (pe_callTy call_int1 (by rfl) T.f_int (by decide +kernel) (pa_cons (pv 3) pa_nil)))))
      (pss_one (ps_asg (pe_op op_cat (pe_ix ix_list (pv 2) (pe_un un_neg pe_int) (fun _ _ => rfl)) (pe_lst (pa_cons (pe_tup (pa_cons (pv 4) (pa_cons (pv 5) pa_nil))) pa_nil))) (pg_sub (pv 2) (pe_un un_neg pe_int) set_list)))))
      (pss_one (ps_set (i := 3) sc_rows_of.nd rfl (Or.inl rfl) (pe_cmpR op_eq (pv 4) (pe_gint T.g_KEPT) (nomark _))))))
      (pss_one (ps_ret (pe_tup (pa_cons (pe_op op_cat (pv 1) (pe_op op_rep (pe_lst (pa_cons (pe_lst pa_nil) pa_nil)) (pe_callTy call_int1 (by rfl) T.f_int (by decide +kernel) (pa_cons (pe_not (pv 3)) pa_nil)))) (pa_cons (pv 2) pa_nil))))))))), ?_⟩
  refine ⟨by show 0 ≤ sizeLine; decide, fun e0 he0 => ?_⟩
  refine ⟨by show 1 ≤ sizeLine; decide, fun k0 hk0 => ?_⟩
  refine ⟨by show 0 ≤ sizeLine; decide, fun o0 ho0 => ?_⟩
  have s1 := (((Same.refl H).new (o := .lst []) he0).new (o := .lst [.ref e0]) hk0).new (o := .lst []) ho0
  refine ⟨_, rfl, a, rfl, ⟨_, .of (s1 _ _ h1)⟩, ?_⟩
  refine for_mk hm (fun pre σ H' => ∃ ka oa k l, Same H H' ∧ σ = [some (.ref a), some (.ref ka), some (.ref oa), some (.bl (rowRun pre).was), k, l] ∧ LTx H' ka (rowRun pre).ks ∧ LMk H' oa (rowRun pre).os) ⟨k0, o0, none, none, s1, rfl, ?_, ?_⟩ (fun _ _ _ h => by obtain ⟨_, _, _, _, s, _⟩ := h; exact s) ?_ ?_
  · have n1 : e0 ≠ k0 := fun z => by rw [← z, upd_same] at hk0; cases hk0
    have n2 : k0 ≠ o0 := fun z => by rw [← z, upd_same] at ho0; cases ho0
    have n3 : e0 ≠ o0 := fun z => by rw [← z, upd_ne n1, upd_same] at ho0; cases ho0
    exact ⟨[e0], by rw [upd_ne n2, upd_same]; rfl, .cons (by rw [upd_ne n3, upd_ne n1, upd_same]; rfl) .nil⟩
  · exact ⟨[], upd_same, .nil⟩
  · rintro pre o post t σ H' e ⟨ka, oa, kk, ll, s2, rfl, hk, ho⟩ ht
    have b := RB.run pre
    have lp := pre_len e
    refine ⟨t, _, rfl, .of ht, rfl, _, _, rfl, _, _, rfl, rfl, ?_⟩
    refine ⟨_, rfl, rfl, _, rfl, ?_⟩
    rw [kind_eq0]
    refine if_of (fun c => ?_) (fun c => ?_)
    · obtain ⟨as, hk1, hk2⟩ := hk
      refine ⟨_, rfl, by show 0 ≤ sizeLine; decide, fun e he => ⟨by show 1 ≤ sizeLine; decide, fun q hq => ⟨_, rfl, _, rfl, .inr ⟨_, rfl, q, _, _, rfl, rfl, upd_same, by split <;> omega, by split <;> omega, small' (by rw [List.length_singleton]; split <;> omega), fun p hp => ?_⟩⟩⟩⟩
      have s3 := (((Same.refl H').new (o := .lst []) he).new (o := .lst [.ref e]) hq).new (o := .lst (List.replicate (if (!(rowRun pre).was) = true then (1 : Int) else 0).toNat [V.ref e]).flatten) hp
      have la := Paired.length hk2
      refine ⟨ka, p, _, _, rfl, rfl, s3 _ _ hk1, upd_same, small' (by rw [rep01, List.length_map]; have := b.k1; split <;> simp <;> omega), fun z hz => ?_⟩
      obtain ⟨ks', k', e1, e2⟩ := keep_shape (rowRun pre) b.k0 (Vasedc.lineIn o)
      have es : rowStep (rowRun pre) o = ⟨ks' ++ [k' ++ [Vasedc.lineIn o]], (rowRun pre).os, true⟩ := by
        unfold rowStep
        rw [if_pos c, e2]
      have ew : (if (rowRun pre).was = true then [] else [([] : Text)]) = if (!(rowRun pre).was) = true then [[]] else [] := by cases (rowRun pre).was <;> rfl
      have hq' : q ≠ e := fun z => by rw [z, upd_same] at hq; cases hq
      have hp' : p ≠ e := fun z => by rw [z, upd_ne (Ne.symm hq'), upd_same] at hp; cases hp
      have hr1 := rows_more (F := fun (H : Hp) (t : Text) x => H x = some (.lst (vT t))) (b := !(rowRun pre).was) (emp := ([] : Text)) (e := e) hk2 (fun x a h => s3 _ _ h) (by show upd _ p _ e = _; rw [upd_ne (Ne.symm hp'), upd_ne (Ne.symm hq'), upd_same]; rfl)
      rw [← ew, e1] at hr1
      obtain ⟨as1, b1, ea, hq1, hb⟩ := Paired.snoc_inv hr1
      have ez : as.map V.ref ++ (List.replicate (if (!(rowRun pre).was) = true then (1 : Int) else 0).toNat [V.ref e]).flatten = as1.map V.ref ++ [V.ref b1] := by
        rw [rep01]
        have h := congrArg (List.map V.ref) ea
        rw [List.map_append, List.map_append] at h
        refine Eq.trans ?_ h
        cases (rowRun pre).was <;> rfl
      rw [ez]
      refine ⟨_, rfl, _, rfl, z, _, _, _, rfl, rfl, .of upd_same, atI_snoc _ _, _, rfl, by show 1 ≤ sizeLine; decide, fun l hl => ?_⟩
      have lk : k'.length ≤ pre.length + 1 := by
        have b2 := (RB.keep b (Vasedc.lineIn o)).k2 (k' ++ [Vasedc.lineIn o]) (by rw [e2]; simp)
        rw [List.length_append, List.length_singleton] at b2
        omega
      have s4 := ((Same.refl _).new (o := .lst (as1.map V.ref ++ [V.ref b1])) hz).new (o := .lst [vS (Vasedc.lineIn o)]) hl
      refine ⟨b1, l, _, _, rfl, rfl, s4 _ _ hb, upd_same, small' (by rw [vT_len, List.length_singleton]; omega), fun r hr' => ?_⟩
      have zl : z ≠ l := fun x => by rw [← x, upd_same] at hl; cases hl
      have zr : z ≠ r := fun x => by rw [← x, upd_ne zl, upd_same] at hr'; cases hr'
      refine ⟨_, rfl, _, rfl, z, _, _, as1.length, rfl, rfl, by rw [upd_ne zr, upd_ne zl, upd_same], ?_, ?_⟩
      · rw [List.length_append, List.length_map, List.length_singleton]
        exact ixN_last
      have s5 := (s4.new (o := .lst (vT k' ++ [vS (Vasedc.lineIn o)])) hr').mut (o := .lst ((as1.map V.ref ++ [V.ref b1]).set as1.length (.ref r))) hz
      refine ⟨_, rfl, rfl, ?_⟩
      refine ⟨z, oa, some (.int (kOf o)), some (vS (Vasedc.lineIn o)), s2.trans (s3.trans s5), ?_, ⟨as1 ++ [r], ?_, ?_⟩, ?_⟩
      · rw [kind_eq0, c, rowRun_snoc]
        show _ = [some (V.ref a), some (V.ref z), some (V.ref oa), some (V.bl (rowStep (rowRun pre) o).was), _, _]
        rw [es]
        rfl
      · rw [upd_same]
        have h := set_last (as1.map V.ref) (V.ref b1) (V.ref r)
        rw [List.length_map] at h
        rw [h, List.map_append]
        rfl
      · rw [rowRun_snoc, es]
        refine Paired.one (Paired.mapP hq1 fun x a h => s5 _ _ h) ?_
        show upd _ z _ r = _
        rw [upd_ne (Ne.symm zr), upd_same, vT, vT, List.map_append]
        rfl
      · rw [rowRun_snoc, es]
        exact ho.mono (s3.trans s5)
    · obtain ⟨as, hk1, hk2⟩ := ho
      refine ⟨_, rfl, by show 0 ≤ sizeLine; decide, fun e he => ⟨by show 1 ≤ sizeLine; decide, fun q hq => ⟨_, rfl, .inr ⟨_, rfl, q, _, _, rfl, rfl, upd_same, by split <;> omega, by split <;> omega, small' (by rw [List.length_singleton]; split <;> omega), fun p hp => ?_⟩⟩⟩⟩
      have s3 := (((Same.refl H').new (o := .lst []) he).new (o := .lst [.ref e]) hq).new (o := .lst (List.replicate (if (rowRun pre).was = true then (1 : Int) else 0).toNat [V.ref e]).flatten) hp
      have la := Paired.length hk2
      refine ⟨oa, p, _, _, rfl, rfl, s3 _ _ hk1, upd_same, small' (by rw [rep01, List.length_map]; have := b.o1; split <;> simp <;> omega), fun z hz => ?_⟩
      obtain ⟨ks', k', e1, e2⟩ := other_shape (rowRun pre) b.o0 o
      have es : rowStep (rowRun pre) o = ⟨(rowRun pre).ks, ks' ++ [k' ++ [o]], false⟩ := by
        unfold rowStep
        rw [if_neg (by rw [c]; exact Bool.false_ne_true), e2]
      have hq' : q ≠ e := fun z => by rw [z, upd_same] at hq; cases hq
      have hp' : p ≠ e := fun z => by rw [z, upd_ne (Ne.symm hq'), upd_same] at hp; cases hp
      have hr1 := rows_more (F := fun (H : Hp) (q : Patch) x => MkAt H x q) (b := (rowRun pre).was) (emp := ([] : Patch)) (e := e) hk2 (fun x a h => MkAt.mono s3 h) (by refine ⟨[], ?_, .nil⟩; rw [upd_ne (Ne.symm hp'), upd_ne (Ne.symm hq'), upd_same]; rfl)
      rw [e1] at hr1
      obtain ⟨as1, b1, ea, hq1, hb⟩ := Paired.snoc_inv hr1
      have ez : as.map V.ref ++ (List.replicate (if (rowRun pre).was = true then (1 : Int) else 0).toNat [V.ref e]).flatten = as1.map V.ref ++ [V.ref b1] := by
        rw [rep01]
        have h := congrArg (List.map V.ref) ea
        rw [List.map_append, List.map_append] at h
        refine Eq.trans ?_ h
        cases (rowRun pre).was <;> rfl
      rw [ez]
      obtain ⟨ts, hb1, hb2⟩ := hb
      refine ⟨_, rfl, _, rfl, z, _, _, _, rfl, rfl, .of upd_same, atI_snoc _ _, _, rfl, _, rfl, by show 2 ≤ sizeLine; decide, fun t ht => ⟨by show 1 ≤ sizeLine; decide, fun l hl => ?_⟩⟩
      have lk : k'.length ≤ pre.length + 1 := by
        have b2 := (RB.other b o).o2 (k' ++ [o]) (by rw [e2]; simp)
        rw [List.length_append, List.length_singleton] at b2
        omega
      have lts := Paired.length hb2
      have s4' := ((Same.refl _).new (o := .lst (as1.map V.ref ++ [V.ref b1])) hz).new (o := .tup [V.int (kOf o), vS (Vasedc.lineIn o)]) ht
      have s4 := s4'.new (o := .lst [V.ref t]) hl
      refine ⟨b1, l, _, _, rfl, rfl, s4 _ _ hb1, upd_same, small' (by rw [List.length_map, List.length_singleton]; omega), fun r hr' => ?_⟩
      have zt : z ≠ t := fun x => by rw [← x, upd_same] at ht; cases ht
      have zl : z ≠ l := fun x => by rw [← x, upd_ne zt, upd_same] at hl; cases hl
      have zr : z ≠ r := fun x => by rw [← x, upd_ne zl, upd_ne zt, upd_same] at hr'; cases hr'
      have tl : t ≠ l := fun x => by rw [← x, upd_same] at hl; cases hl
      have tr : t ≠ r := fun x => by rw [← x, upd_ne tl, upd_same] at hr'; cases hr'
      refine ⟨_, rfl, _, rfl, z, _, _, as1.length, rfl, rfl, by rw [upd_ne zr, upd_ne zl, upd_ne zt, upd_same], ?_, ?_⟩
      · rw [List.length_append, List.length_map, List.length_singleton]
        exact ixN_last
      have s5 := (s4.new (o := .lst (ts.map V.ref ++ [V.ref t])) hr').mut (o := .lst ((as1.map V.ref ++ [V.ref b1]).set as1.length (.ref r))) hz
      refine ⟨_, rfl, rfl, ?_⟩
      refine ⟨ka, z, some (.int (kOf o)), some (vS (Vasedc.lineIn o)), s2.trans (s3.trans s5), ?_, ?_, ⟨as1 ++ [r], ?_, ?_⟩⟩
      · rw [kind_eq0, c, rowRun_snoc]
        show _ = [some (V.ref a), some (V.ref ka), some (V.ref z), some (V.bl (rowStep (rowRun pre) o).was), _, _]
        rw [es]
        rfl
      · rw [rowRun_snoc, es]
        exact hk.mono (s3.trans s5)
      · rw [upd_same]
        have h := set_last (as1.map V.ref) (V.ref b1) (V.ref r)
        rw [List.length_map] at h
        rw [h, List.map_append]
        rfl
      · rw [rowRun_snoc, es]
        refine Paired.one (Paired.mapP hq1 fun x a h => MkAt.mono s5 h) ⟨ts ++ [t], ?_, ?_⟩
        · rw [upd_ne (Ne.symm zr), upd_same, List.map_append]
          rfl
        · refine Paired.one (MkTs.mono s5 hb2) ?_
          rw [upd_ne (Ne.symm zt), upd_ne tr, upd_ne tl, upd_same]
  · rintro σ H' ⟨ka, oa, kk, ll, s2, rfl, hk, ho⟩
    obtain ⟨as, hk1, hk2⟩ := hk
    have b := RB.run p
    refine ⟨_, rfl, by show 0 ≤ sizeLine; decide, fun e he => ⟨by show 1 ≤ sizeLine; decide, fun q hq => ⟨_, rfl, _, rfl, .inr ⟨_, rfl, q, _, _, rfl, rfl, upd_same, by split <;> omega, by split <;> omega, small' (by rw [List.length_singleton]; split <;> omega), fun p' hp => ?_⟩⟩⟩⟩
    have s3 := (((Same.refl H').new (o := .lst []) he).new (o := .lst [.ref e]) hq).new (o := .lst (List.replicate (if (!(rowRun p).was) = true then (1 : Int) else 0).toNat [V.ref e]).flatten) hp
    have la := Paired.length hk2
    refine ⟨ka, p', _, _, rfl, rfl, s3 _ _ hk1, upd_same, small' (by rw [rep01, List.length_map]; have := b.k1; split <;> simp <;> omega), fun z hz => ?_⟩
    have ew : (if (rowRun p).was = true then [] else [([] : Text)]) = if (!(rowRun p).was) = true then [[]] else [] := by cases (rowRun p).was <;> rfl
    have hq' : q ≠ e := fun z => by rw [z, upd_same] at hq; cases hq
    have hp' : p' ≠ e := fun z => by rw [z, upd_ne (Ne.symm hq'), upd_same] at hp; cases hp
    have hr1 := rows_more (F := fun (H : Hp) (t : Text) x => H x = some (.lst (vT t))) (b := !(rowRun p).was) (emp := ([] : Text)) (e := e) hk2 (fun x a h => s3 _ _ h) (by show upd _ p' _ e = _; rw [upd_ne (Ne.symm hp'), upd_ne (Ne.symm hq'), upd_same]; rfl)
    rw [← ew] at hr1
    refine ⟨_, rfl, by show 2 ≤ sizeLine; decide, fun t ht => ?_⟩
    have zt : z ≠ t := fun x => by rw [← x, upd_same] at ht; cases ht
    have s4 := ((Same.refl _).new (o := .lst (as.map V.ref ++ (List.replicate (if (!(rowRun p).was) = true then (1 : Int) else 0).toNat [V.ref e]).flatten)) hz).new (o := .tup [V.ref z, V.ref oa]) ht
    refine k t z oa _ (s2.trans (s3.trans s4)) upd_same ⟨as ++ (if (!(rowRun p).was) = true then [e] else []), ?_, Paired.mapP hr1 fun x a h => s4 _ _ h⟩ (ho.mono (s3.trans s4))
    rw [upd_ne zt, upd_same, rep01, List.map_append]
    cases (rowRun p).was <;> rfl
end
end Lp
end
section
set_option maxHeartbeats 4000000
/-! ### the changes of a patch -/
namespace Lp
open PySem PySem.Spec PyProof.Rows L2
open PySem.W (Frag)
open Vaseda (Line Text)
open Vasedc (Op Patch Hunk)
theorem rowsOf_bound (p : Patch) : (rowsOf p).2.length ≤ p.length ∧ (∀ k ∈ (rowsOf p).1, k.length ≤ p.length) ∧ ∀ o ∈ (rowsOf p).2, o.length ≤ p.length := by
  have b := RB.run p
  refine ⟨b.o1, fun k hk => ?_, b.o2⟩
  have hk : k ∈ (rowRun p).ks ++ (if (rowRun p).was = true then [] else [[]]) := hk
  rcases List.mem_append.mp hk with h | h
  · exact b.k2 k h
  · cases hw : (rowRun p).was <;> rw [hw] at h <;> simp at h
    rw [h]
    exact Nat.zero_le _
theorem cutV_lastN (xs : List V) (n : Nat) : cutV xs (some (-(n : Int) - 1)) none = xs.drop (xs.length - (n + 1)) := by
  have e : HT.sIx xs.length 0 (some (-(n : Int) - 1)) = xs.length - (n + 1) := by
    show (if (-(n : Int) - 1) < 0 then (-(n : Int) - 1 + (xs.length : Int)).toNat else _) = _
    rw [if_pos (by omega)]
    omega
  unfold cutV
  rw [HT.sIx_none, e]
  exact List.take_of_length_le (by rw [List.length_drop]; omega)
theorem cutV_last2 (xs : List V) : cutV xs (some (-2)) none = xs.drop (xs.length - 2) := cutV_lastN xs 1
theorem cutV_head (xs : List V) (n : Nat) : cutV xs none (some (n : Int)) = xs.take n := by
  unfold cutV
  rw [HT.sIx_nat, HT.sIx_none, Nat.sub_zero, List.drop_zero]
  by_cases h : n ≤ xs.length
  · rw [Nat.min_eq_left h]
  · rw [Nat.min_eq_right (by omega), List.take_of_length_le (Nat.le_refl _), List.take_of_length_le (by omega)]
/-- a heap with one object hidden: what stands there is no part of a list that grows -/
def hid (F : Addr) (H : Hp) : Hp := fun a => if a = F then none else H a
theorem hid_upd {F : Addr} {H : Hp} {o : HO} : hid F (upd H F o) = hid F H := by
  funext a
  unfold hid
  by_cases h : a = F
  · rw [if_pos h, if_pos h]
  · rw [if_neg h, if_neg h, upd_ne h]
theorem hid_same (F : Addr) (H : Hp) : Same (hid F H) H := fun a o e => by
  unfold hid at e
  by_cases h : a = F
  · rw [if_pos h] at e; cases e
  · rw [if_neg h] at e; exact e
theorem hid_mono {F : Addr} {H H' : Hp} (s : Same H H') : Same (hid F H) (hid F H') := fun a o e => by
  unfold hid at e ⊢
  by_cases h : a = F
  · rw [if_pos h] at e; cases e
  · rw [if_neg h] at e ⊢; exact s _ _ e
theorem hid_get {F a : Addr} {H : Hp} {o : HO} (n : a ≠ F) (e : H a = some o) : hid F H a = some o := by
  unfold hid
  rw [if_neg n]
  exact e
/-- the changes at the addresses that a list holds -/
def LCh (K : Frag) (H : Hp) (a : Addr) (hs : List Hunk) : Prop := ∃ cs, H a = some (.lst (cs.map V.ref)) ∧ Paired (fun (h : Hunk) x => ChAt K H x h) hs cs
theorem LCh.mono {K : Frag} {H H' : Hp} {a : Addr} {hs : List Hunk} (s : Same H H') : LCh K H a hs → LCh K H' a hs := fun ⟨cs, h1, h2⟩ => ⟨cs, s _ _ h1, Paired.mapP h2 fun _ _ e => ChAt.mono s e⟩
theorem mapRows_step (n : Nat) (ks : List Text) (os : List Patch) (i : Nat) (k0 k1 : Text) (o : Patch) (h0 : ks[i]? = some k0) (h1 : ks[i + 1]? = some k1) (ho : os[i]? = some o) :
    mapRows n (ks.drop i) (os.drop i) = ⟨n + k0.length, k0.drop (k0.length - 2), outsOf o, insOf o, k1.take 2⟩ :: mapRows (n + k0.length + (outsOf o).length) (ks.drop (i + 1)) (os.drop (i + 1)) := by
  obtain ⟨l0, e0⟩ := List.getElem?_eq_some_iff.mp h0
  obtain ⟨l1, e1⟩ := List.getElem?_eq_some_iff.mp h1
  obtain ⟨lo, eo⟩ := List.getElem?_eq_some_iff.mp ho
  rw [List.drop_eq_getElem_cons l0, List.drop_eq_getElem_cons l1, List.drop_eq_getElem_cons lo, e0, e1, eo]
  rfl
section
variable {P : Program} {w : World} {K : Frag} {mg : Str → Option Value} {base : Heap}
abbrev s_changes_of : Stmt := topS 14
theorem sc_changes_of : FnScope ["marks", "kept", "others", "found", "place", "k", "row", "outs", "ins", "kind", "line"] ["marks"] (defScope s_changes_of) := ⟨rfl, rfl, rfl, by decide +kernel, rfl, by decide +kernel, by decide +kernel⟩
def spChanges (K : Frag) : Sp := fun vs H Q _ => ∃ (a : Addr) (p : Patch), vs = [.ref a] ∧ MkAt H a p ∧ p.length ≤ 10000 ∧ ∀ r H', Same H H' → LCh K H' r (Vasedc.hunks p) → Q (.ref r) H'
theorem ok_changes_of (A : FnAt K mg "changes_of" s_changes_of ["marks"]) (T : Txt K mg) (D_rows_of : Dn P w K mg base CX0 1 "rows_of" ["marks"] spRows)
    (D_Change : Dc P w K mg base 1 "Change" (cA K "Change") ["self", "place", "before", "outs", "ins", "behind"] (spNewChange K)) : Dn P w K mg base CX0 3 "changes_of" ["marks"] (spChanges K) := A.dn fun f fd F => by
  refine ok0 F sc_changes_of (fun vs H Q E h => ?_) (fun cdv A outer s H vs Q E hr h => ?_)
  · obtain ⟨a, p, rfl, _⟩ := h
    rfl
  obtain ⟨a, p, rfl, hm, hz, k⟩ := h
  refine ⟨_, (pss_cons (ps_asg (pe_f D_rows_of (hr.mono (by decide)) pass0 (pa_cons (pv 0) pa_nil)) (pg_tup (by rfl) (pgs_cons (pg_name (i := 1) sc_changes_of.nd rfl (Or.inl rfl)) (pgs_cons (pg_name (i := 2) sc_changes_of.nd rfl (Or.inl rfl)) pgs_nil))))
      (pss_cons (ps_set (i := 3) sc_changes_of.nd rfl (Or.inl rfl) (pe_lst pa_nil))
      (pss_cons (ps_set (i := 4) sc_changes_of.nd rfl (Or.inl rfl) pe_int)
      (pss_cons (ps_for PassesOwn.never rfl (pi_enum (by rfl) T.f_enumerate (pa_cons (pv 2) pa_nil)) (pg_tup (by rfl) (pgs_cons (pg_name (i := 5) sc_changes_of.nd rfl (Or.inl rfl)) (pgs_cons (pg_name (i := 6) sc_changes_of.nd rfl (Or.inl rfl)) pgs_nil)))
      (pss_cons (ps_set (i := 4) sc_changes_of.nd rfl (Or.inl rfl) (pe_op op_add (pv 4) (pe_callB call_len (by rfl) T.f_len PySem.boot_len (pa_cons (pe_ix ix_list (pv 1) (pv 5) (fun _ _ => rfl)) pa_nil))))
      (pss_cons (ps_setLc (i := 7) (own := [("kind", 9), ("line", 10)]) (by rfl) sc_changes_of.nd rfl rfl (sw_true rfl rfl rfl (by decide +kernel)) (pi_list (pv 6)) (blkOk_by (own := [("kind", 9), ("line", 10)]) (N := ["marks", "kept", "others", "found", "place", "k", "row", "outs", "ins", "kind", "line"]) (sc := defScope s_changes_of) (by decide +kernel)) (fun _ _ _ _ _ => by exact (pg_tupK K 2 rfl (by rfl) (pgs_cons (pg_name (i := 9) sc_changes_of.nd rfl (Or.inl rfl)) (pgs_cons (pg_name (i := 10) sc_changes_of.nd rfl (Or.inl rfl)) pgs_nil)))) (fun _ _ _ _ _ => by exact (pts_one (pt_cmpR op_eq (pv 9) (pe_gint T.g_OUT) (nomark _)))) (fun _ _ _ _ _ => by exact (pv 10)))
      (pss_cons (ps_setLc (i := 8) (own := [("kind", 9), ("line", 10)]) (by rfl) sc_changes_of.nd rfl rfl (sw_true rfl rfl rfl (by decide +kernel)) (pi_list (pv 6)) (blkOk_by (own := [("kind", 9), ("line", 10)]) (N := ["marks", "kept", "others", "found", "place", "k", "row", "outs", "ins", "kind", "line"]) (sc := defScope s_changes_of) (by decide +kernel)) (fun _ _ _ _ _ => by exact (pg_tupK K 2 rfl (by rfl) (pgs_cons (pg_name (i := 9) sc_changes_of.nd rfl (Or.inl rfl)) (pgs_cons (pg_name (i := 10) sc_changes_of.nd rfl (Or.inl rfl)) pgs_nil)))) (fun _ _ _ _ _ => by exact (pts_one (pt_cmpR op_eq (pv 9) (pe_gint T.g_IN) (nomark _)))) (fun _ _ _ _ _ => by exact (pv 10)))
      (pss_cons (ps_expr (pe_bm PySem.F.plainAttrs_list PySem.F.slot_list_append PySem.F.type_list_append mt_append (pv 3) (pa_cons (pe_c D_Change (hr.mono (by decide)) (pa_cons (pv 4) (pa_cons (pe_slice sl_list (pe_ix ix_list (pv 1) (pv 5) (fun _ _ => rfl)) (po_some (pe_un un_neg pe_int)) po_none) (pa_cons (pv 7) (pa_cons (pv 8) (pa_cons (pe_slice sl_list (pe_ix ix_list (pv 1) (pe_op op_add (pv 5) pe_int) (fun _ _ => rfl)) po_none (po_some pe_int)) pa_nil)))))) pa_nil)))
      (pss_one (ps_set (i := 4) sc_changes_of.nd rfl (Or.inl rfl) (pe_op op_add (pv 4) (pe_callB call_len (by rfl) T.f_len PySem.boot_len (pa_cons (pv 7) pa_nil))))))))))
      (pss_one (ps_ret (pv 3))))))), ?_⟩
  refine ⟨_, rfl, a, p, rfl, hm, hz, fun r ka oa H1 s1 hr1 hk ho => ⟨r, _, rfl, .of hr1, rfl, _, _, rfl, _, _, rfl, rfl, ?_⟩⟩
  refine ⟨by show 0 ≤ sizeLine; decide, fun F0 hF0 => ?_⟩
  have s2 := (Same.refl H1).new (o := .lst []) hF0
  obtain ⟨kas, hk1, hk2⟩ := hk
  obtain ⟨oas, ho1, ho2⟩ := ho
  have bd := rowsOf_bound p
  have bl := rowsOf_len p
  have lk := Paired.length hk2
  have lo := Paired.length ho2
  refine ⟨_, rfl, oa, _, rfl, .of (s2 _ _ ho1), ?_⟩
  refine for_it walk_enum (fun i σ H' => ∃ x5 x6 x7 x8 x9 x10, ∃ (pl : Nat) (cs : List Addr) (done : List Hunk), σ = [some (.ref a), some (.ref ka), some (.ref oa), some (.ref F0), some (.int pl), x5, x6, x7, x8, x9, x10] ∧ Same H1 H' ∧ H' F0 = some (.lst (cs.map V.ref)) ∧ cs.length = i ∧
    Paired (fun (h : Hunk) x => ChAt K (hid F0 H') x h) done cs ∧ Vasedc.hunks p = done ++ mapRows pl ((rowsOf p).1.drop i) ((rowsOf p).2.drop i)) ?_ (fun i σ H' _ h => by obtain ⟨_, _, _, _, _, _, _, _, _, _, s, _⟩ := h; exact .of (s _ _ ho1)) ?_ ?_
  · exact ⟨none, none, none, none, none, none, 0, [], [], rfl, s2, upd_same, rfl, .nil, by rw [hunks_rows]; rfl⟩
  · rintro i x σ H' H'' hi ⟨x5, x6, x7, x8, x9, x10, pl, cs, done, rfl, s3, hF, hl, hd, eq⟩ ⟨t, x0, y0, rfl, hT, rfl, ex0, ey0⟩
    cases ex0
    have ey0 : (oas.map V.ref)[i]? = some y0 := ey0
    rw [List.getElem?_map] at ey0
    obtain ⟨b, eb, rfl⟩ := Option.map_eq_some_iff.mp ey0
    obtain ⟨o, eo, hb⟩ := Paired.at ho2 eb
    have hi' : i < (rowsOf p).2.length := (List.getElem?_eq_some_iff.mp eo).1
    have ek0 : (rowsOf p).1[i]? = some ((rowsOf p).1[i]'(by omega)) := List.getElem?_eq_getElem _
    have ek1 : (rowsOf p).1[i + 1]? = some ((rowsOf p).1[i + 1]'(by omega)) := List.getElem?_eq_getElem _
    have m0 := List.mem_of_getElem? ek0
    have m1 := List.mem_of_getElem? ek1
    generalize (rowsOf p).1[i]'(by omega) = k0 at ek0 m0
    generalize (rowsOf p).1[i + 1]'(by omega) = k1 at ek1 m1
    obtain ⟨c0, ec0, hc0⟩ := Paired.to hk2 ek0
    obtain ⟨c1, ec1, hc1⟩ := Paired.to hk2 ek1
    have z0 := bd.2.1 k0 m0
    have zo := bd.2.2 o (List.mem_of_getElem? eo)
    have s4 := s3.new (o := .tup [V.int (i : Nat), V.ref b]) hT
    have eka : (kas.map V.ref)[i]? = some (.ref c0) := by rw [List.getElem?_map, ec0]; rfl
    have ekb : (kas.map V.ref)[i + 1]? = some (.ref c1) := by rw [List.getElem?_map, ec1]; rfl
    refine ⟨t, _, rfl, .of upd_same, rfl, _, _, rfl, _, _, rfl, rfl, ?_⟩
    -- place
    refine ⟨_, rfl, _, rfl, _, rfl, ka, _, _, _, rfl, rfl, .of (s4 _ _ hk1), atI_nat eka, _, k0.length, rfl, .inl ⟨_, .of (s4 _ _ hc0), vT_len.symm⟩, _, _, rfl, rfl, ?_⟩
    -- outs
    refine ⟨_, rfl, b, rfl, ⟨_, .of (s4 _ _ hb.choose_spec.1)⟩, fun D1 hD1 => lc_sel Vasedc.isDrop (fun o => vS (Vasedc.lineIn o)) (hb.mono s4) (by omega) hD1 (fun _ _ => rfl) ?_ (fun o H' Q' _ h => ⟨_, rfl, h⟩) fun H5 s5 l5 => ?_⟩
    · intro o H' Q' h
      refine ⟨_, rfl, rfl, _, rfl, ?_⟩
      rw [kind_eq1]
      exact h
    have s45 := s4.trans s5
    refine ⟨_, rfl, b, rfl, ⟨_, .of (s45 _ _ hb.choose_spec.1)⟩, fun D2 hD2 => lc_sel Vasedc.isPut (fun o => vS (Vasedc.lineIn o)) (hb.mono s45) (by omega) hD2 (fun _ _ => rfl) ?_ (fun o H' Q' _ h => ⟨_, rfl, h⟩) fun H6 s6 l6 => ?_⟩
    · intro o H' Q' h
      refine ⟨_, rfl, rfl, _, rfl, ?_⟩
      rw [kind_eq2]
      exact h
    have s46 := s45.trans s6
    have hF6 : H6 F0 = some (.lst (cs.map V.ref)) := by
      have e1 : F0 ≠ t := fun z => by rw [z, hT] at hF; cases hF
      exact s6 _ _ (s5 _ _ (by rw [upd_ne e1]; exact hF))
    -- the change
    refine ⟨_, rfl, .inl ⟨rfl, _, .of hF6⟩, ?_⟩
    refine ⟨_, rfl, _, rfl, _, rfl, ka, _, _, _, rfl, rfl, .of (s46 _ _ hk1), atI_nat eka, _, rfl, _, rfl, c0, _, rfl, .of (s46 _ _ hc0), fun q1 hq1 => ?_⟩
    have s7 := s46.new (o := .lst (cutV (vT k0) (some (-2)) none)) hq1
    refine ⟨_, rfl, _, rfl, _, rfl, _, rfl, _, _, rfl, rfl, ka, _, _, _, rfl, rfl, .of (s7 _ _ hk1), at_of (j := i + 1) (by omega) ekb, _, rfl, c1, _, rfl, .of (s7 _ _ hc1), fun q2 hq2 => ?_⟩
    have s8 := s7.new (o := .lst (cutV (vT k1) none (some 2))) hq2
    intro x dx hx hdx hne
    refine ⟨x, dx, _, _, _, _, _, rfl, upd_same, fun H9 sb hx9 => ⟨rfl, ?_⟩⟩
    have s9 : Same (upd (upd H6 q1 (.lst (cutV (vT k0) (some (-2)) none))) q2 (.lst (cutV (vT k1) none (some 2)))) H9 := Same.but hx hdx sb
    have s69 : Same H6 H9 := (((Same.refl H6).new hq1).new hq2).trans s9
    refine ⟨F0, _, _, rfl, rfl, s69 _ _ hF6, small (by rw [List.length_map]; omega), ?_⟩
    have hF0' : H1 F0 = none := hF0
    have nD1 : D1 ≠ F0 := fun z => by
      rw [z, upd_ne (fun z2 => by rw [z2, hT] at hF; cases hF), hF] at hD1
      cases hD1
    have nD2 : D2 ≠ F0 := fun z => by
      have hF5 : H5 F0 = some (.lst (cs.map V.ref)) := s5 _ _ (by rw [upd_ne (fun z => by rw [z, hT] at hF; cases hF)]; exact hF)
      rw [z, hF5] at hD2
      cases hD2
    have lD1 : upd H9 F0 (.lst (cs.map V.ref ++ [V.ref x])) D1 = some (.lst (vT (outsOf o))) := by
      rw [upd_ne nD1, s69 _ _ (s6 _ _ l5)]
      unfold outsOf
      rw [vT, List.map_map]
      rfl
    have lD2 : upd H9 F0 (.lst (cs.map V.ref ++ [V.ref x])) D2 = some (.lst (vT (insOf o))) := by
      rw [upd_ne nD2, s69 _ _ l6]
      unfold insOf
      rw [vT, List.map_map]
      rfl
    have sF : Same H1 (upd H9 F0 (.lst (cs.map V.ref ++ [V.ref x]))) := (s46.trans s69).mut hF0'
    have nq1 : q1 ≠ F0 := fun z => by rw [z, hF6] at hq1; cases hq1
    have nq2 : q2 ≠ F0 := fun z => by rw [z, upd_ne (Ne.symm nq1), hF6] at hq2; cases hq2
    have nq12 : q1 ≠ q2 := fun z => by rw [← z, upd_same] at hq2; cases hq2
    have nxF : x ≠ F0 := fun z => by rw [z, upd_ne (Ne.symm nq2), upd_ne (Ne.symm nq1), hF6] at hx; cases hx
    -- behind the change
    refine ⟨_, rfl, _, rfl, _, (outsOf o).length, rfl, .inl ⟨_, .of lD1, vT_len.symm⟩, _, _, rfl, rfl, ?_⟩
    refine ⟨_, _, _, _, _, _, pl + k0.length + (outsOf o).length, cs ++ [x], done ++ [⟨pl + k0.length, k0.drop (k0.length - 2), outsOf o, insOf o, k1.take 2⟩], rfl, sF, ?_, ?_, ?_, ?_⟩
    · rw [upd_same, List.map_append]
      rfl
    · rw [List.length_append, hl]
      rfl
    · rw [hid_upd]
      refine Paired.one (Paired.mapP hd fun h c e => ChAt.mono (hid_mono ((((Same.refl H').new hT).trans (s5.trans s6)).trans s69)) e) ?_
      rw [← hid_upd (o := .lst (cs.map V.ref ++ [V.ref x]))]
      refine ⟨dx, q1, D1, D2, q2, hid_get nxF ?_, hid_get nq1 ?_, hid_get nD1 lD1, hid_get nD2 lD2, hid_get nq2 ?_⟩
      · rw [upd_ne nxF, hx9]
        rfl
      · rw [upd_ne nq1, s9 _ _ (by rw [upd_ne nq12, upd_same]), cutV_last2, vT_len]
        simp [vT, List.map_drop]
      · rw [upd_ne nq2, s9 _ _ upd_same, show ((2 : Int)) = ((2 : Nat) : Int) from rfl, cutV_head]
        simp [vT, List.map_take]
    · rw [eq, mapRows_step pl _ _ i k0 k1 o ek0 ek1 eo, List.append_assoc]
      rfl
  · rintro σ H' ⟨x5, x6, x7, x8, x9, x10, pl, cs, done, rfl, s3, hF, hl, hd, eq⟩
    rw [List.length_map, ← lo] at eq
    rw [List.drop_of_length_le (Nat.le_refl (rowsOf p).2.length), mapRows_nil, List.append_nil] at eq
    exact ⟨_, rfl, k F0 H' (s1.trans s3) ⟨cs, hF, by rw [eq]; exact Paired.mapP hd fun _ _ e => ChAt.mono (hid_same F0 H') e⟩⟩
end
end Lp
end
section
set_option maxHeartbeats 4000000
/-! ### patches put to other texts -/
namespace Lp
open PySem PySem.Spec PyProof.Rows L2
open PySem.W (Frag)
open Vaseda (Line Text)
open Vasedc (Op Patch Hunk)
/-! min of pairs, a default beside -/
abbrev pairD (p : Int × Int) : PyData := .tuple [.int p.1, .int p.2]
def plt (p q : Int × Int) : Prop := p.1 < q.1 ∨ (p.1 = q.1 ∧ p.2 < q.2)
instance (p q : Int × Int) : Decidable (plt p q) := by unfold plt; infer_instance
theorem lex2 (a b c d : Int) : PyProof.Rows.lexLt PyProof.Rows.itemOrd [.inl 1, .inl a, .inl 1, .inl b, .inl 0] [.inl 1, .inl c, .inl 1, .inl d, .inl 0] = decide (plt (a, b) (c, d)) := by
  rw [PyProof.Rows.lex_self]
  unfold plt
  by_cases h : a = c
  · subst h
    rw [PyProof.Rows.lex_self, PyProof.Rows.lex_self]
    by_cases h2 : b = d
    · subst h2
      rw [PyProof.Rows.lex_self, PyProof.Rows.lex_self]
      simp [PyProof.Rows.lexLt]
    · rw [PyProof.Rows.lex_diff (by simpa using h2)]
      show decide (b < d) = _
      simp
  · rw [PyProof.Rows.lex_diff (by simpa using h)]
    show decide (a < c) = _
    simp [h]
theorem dataLt_pair (p q : Int × Int) : PySem.W.dataLt (pairD p) (pairD q) = decide (plt p q) := lex2 p.1 p.2 q.1 q.2
theorem minD_pairs : ∀ (ps : List (Int × Int)) (x : Int × Int), ∃ m ∈ x :: ps, PySem.W.minD (pairD x) (ps.map pairD) = pairD m ∧ ∀ q ∈ x :: ps, ¬ plt q m
  | [], x => ⟨x, by simp, rfl, fun q hq => by
    have : q = x := by simpa using hq
    subst this
    unfold plt
    omega⟩
  | y :: ps, x => by
    have e : PySem.W.minD (pairD x) ((y :: ps).map pairD) = PySem.W.minD (if PySem.W.dataLt (pairD y) (pairD x) = true then pairD y else pairD x) (ps.map pairD) := rfl
    by_cases c : plt y x
    · obtain ⟨m, hm, h1, h2⟩ := minD_pairs ps y
      refine ⟨m, List.mem_cons_of_mem _ hm, by rw [e, dataLt_pair, if_pos (decide_eq_true c)]; exact h1, fun q hq => ?_⟩
      rcases List.mem_cons.mp hq with z | hq
      · subst z
        have := h2 y (by simp)
        unfold plt at *
        omega
      · exact h2 q hq
    · obtain ⟨m, hm, h1, h2⟩ := minD_pairs ps x
      refine ⟨m, by rcases List.mem_cons.mp hm with z | z <;> simp [z], by rw [e, dataLt_pair, if_neg (by simpa using c)]; exact h1, fun q hq => ?_⟩
      rcases List.mem_cons.mp hq with z | hq
      · exact h2 q (by simp [z])
      · rcases List.mem_cons.mp hq with z | hq
        · subst z
          have := h2 x (by simp)
          unfold plt at *
          omega
        · exact h2 q (List.mem_cons_of_mem _ hq)
def rMinDP (K : Frag) : List V → List V → Hp → VK → Prop := fun vs zs H Q => ∃ (a : Addr) (ts : List Addr) (ps : List (Int × Int)), vs = [V.ref a] ∧ zs = [.non] ∧ H a = some (.lst (ts.map V.ref)) ∧ Paired (fun (p : Int × Int) t => H t = some (.tup [.int p.1, .int p.2])) ps ts ∧
  (ps = [] → Q .non H) ∧ ∀ t p, p ∈ ps → H t = some (.tup [.int p.1, .int p.2]) → (∀ q ∈ ps, ¬ plt q p) → Q (.ref t) H
theorem dp_pairs (K : Frag) (H : Hp) : ∀ {ps : List (Int × Int)} {ts : List Addr}, Paired (fun (p : Int × Int) t => H t = some (.tup [.int p.1, .int p.2])) ps ts → DpAll K H (ts.map V.ref) (ps.map pairD)
  | _, _, .nil => .nil
  | _, _, .cons h r => .cons (.tup (.of h) (.cons (.int _) (.cons (.int _) .nil))) (dp_pairs K H r)
theorem dep_pairs : ∀ ps : List (Int × Int), PyData.depthAll (ps.map pairD) ≤ 1
  | [] => by decide
  | p :: ps => by
    have := dep_pairs ps
    show max (PyData.depth (pairD p)) (PyData.depthAll (ps.map pairD)) ≤ 1
    exact Nat.max_le.mpr ⟨Nat.le_refl 1, this⟩
theorem alike_pairs (ps : List (Int × Int)) : PySem.W.AlikeAll (ps.map pairD) := by
  constructor
  · intro x hx y hy
    obtain ⟨p, _, rfl⟩ := List.mem_map.mp hx
    obtain ⟨q, _, rfl⟩ := List.mem_map.mp hy
    rfl
  · intro x hx
    obtain ⟨p, _, rfl⟩ := List.mem_map.mp hx
    exact fun z => nomatch z
theorem cr_minDP {X : Cx} (hc : X.calm = true) (hu : X.A.units + 64 < cLine) : CallRK X (.builtin "min") [Str.ofString "default"] (rMinDP X.K) := by
  intro pins s σ H vs zs us ws Q I r rz h
  obtain ⟨a, ts, ps, rfl, rfl, hl, hp, q0, q1⟩ := h
  rw [Vals.ref1 r]
  obtain ⟨w1, rfl, e1⟩ := vals1 rz
  obtain rfl : w1 = Value.none := e1
  obtain ⟨its, rv, hL, hz⟩ := I.list (SqL.of hl)
  obtain ⟨as, hra⟩ := Dp.readsAll I _ _ _ (dp_pairs X.K H hp) rv
  have hd := dep_pairs ps
  refine PySem.W.min_list_default (I.ok.hd hc) hL.isList (by simpa using hra) (alike_pairs ps) (by omega) (fun e h' tk hk => ⟨.non, H, I.kept hk, rfl, q0 (by simpa using e)⟩) fun y ys i v h' tk bs e hv hrd hk => ?_
  have hv : its[i]? = some v := by simpa using hv
  have hi : i < its.length := (List.getElem?_eq_some_iff.mp hv).1
  have hlen := rv.length
  rw [List.length_map] at hlen
  have et : ts[i]? = some (ts[i]'(by omega)) := List.getElem?_eq_getElem _
  obtain ⟨p, ep, hpt⟩ := Paired.at hp et
  obtain ⟨u, hu1, ru⟩ := rv.get (by rw [List.getElem?_map, et]; rfl : (ts.map V.ref)[i]? = some (.ref (ts[i]'(by omega))))
  rw [hv] at hu1
  obtain rfl := Option.some.inj hu1
  have I' : Inv X pins σ H { s with heap := h', toks := tk } := I.kept hk
  obtain ⟨bs', hr'⟩ := Dp.reads I' (pairD p) _ v (.tup (.of hpt) (.cons (.int _) (.cons (.int _) .nil))) ru
  have eq := (Reads.unique hrd _ _ hr').1
  cases ps with
  | nil => cases e
  | cons x xs =>
    have e' : pairD x :: xs.map pairD = y :: ys := e
    obtain ⟨rfl, rfl⟩ := List.cons.inj e'
    obtain ⟨m, hm, h1, h2⟩ := minD_pairs xs x
    rw [h1] at eq
    have em : m = p := by
      have eq : (PyData.tuple [.int m.1, .int m.2]) = .tuple [.int p.1, .int p.2] := eq
      injection eq with eq
      injection eq with e1 e2
      injection e2 with e2 e3
      injection e1 with e1
      injection e2 with e2
      exact Prod.ext e1 e2
    subst em
    exact ⟨_, H, I', ru, q1 _ m hm hpt h2⟩
theorem pe_minD {X : Cx} {e : Expr} {te : TE} {p cp ap kp : Pos} {j : Nat} (hc : X.calm = true) (hu : X.A.units + 64 < cLine) (hg : Gl X "min") (hm : X.mg "min" = none) (he : PE X e te)
    (hs : starEach [e] X.env = (false, eval e X.env) :: starEach [] X.env := by rfl) (hb : backTo ap (starEach [e] X.env) = (false, eval e X.env) :: backTo ap (starEach [] X.env) := by rfl) (hp : (backTo ap (starEach [e] X.env)).any (·.1) = false := by rfl)
    (ha : (backToKw ap (keywordEach [⟨some "default", .Constant .none j cp, kp⟩] X.env)).all (·.1.isSome) = true := by rfl) (hn : (backToKw ap (keywordEach [⟨some "default", .Constant .none j cp, kp⟩] X.env)).any (·.1.isNone) = false := by rfl)
    (hk : (backToKw ap (keywordEach [⟨some "default", .Constant .none j cp, kp⟩] X.env)).filterMap (·.1) = [Str.ofString "default"] := by rfl) :
    PE X (.Call (.Name "min" p) [e] [⟨some "default", .Constant .none j cp, kp⟩] ap) (tCKw (rMinDP X.K) (tCons te tNil) (tCons (tC .non) tNil)) :=
  pe_callBK (cr_minDP hc hu) hg hm (by decide +kernel) (pa_cons he pa_nil hs) (pk_cons pe_non pk_nil) (by decide) (by decide) hb hp ha hn hk
section
variable {P : Program} {w : World} {K : Frag} {mg : Str → Option Value} {base : Heap}
abbrev s_place_for : Stmt := topS 1
theorem sc_place_for : FnScope ["change", "lines", "end", "drift", "wanted", "first", "places", "nearest", "at"] ["change", "lines", "end", "drift"] (defScope s_place_for) := ⟨rfl, rfl, rfl, by decide +kernel, rfl, by decide +kernel, by decide +kernel⟩
def plV (o : Option Nat) : V := match o with
  | none => .non
  | some i => .int (i : Nat)
def HB (h : Hunk) : Prop := h.ahead.length ≤ 200 ∧ h.old.length ≤ 200 ∧ h.new.length ≤ 200 ∧ h.rest.length ≤ 200
def findP (t : Text) (h : Hunk) (e : Nat) (d : Int) : Option Nat := (Vasedc.placesBy (e + h.ahead.length) (t.length - h.old.length) ((h.at_ : Int) + d).toNat).find? (Vasedc.standsAt t h)
def spPlace (K : Frag) : Sp := fun vs H Q _ => ∃ (c b : Addr) (h : Hunk) (t : Text) (e : Nat) (d : Int), vs = [.ref c, .ref b, .int (e : Nat), .int d] ∧ ChAt K H c h ∧ H b = some (.lst (vT t)) ∧ e ≤ t.length ∧ t.length ≤ 100 ∧ HB h ∧ ∀ H', Same H H' → Q (plV (findP t h e d)) H'
def candsL (t : Text) (h : Hunk) (lo n : Nat) : List Nat := ((List.range n).map fun i => lo + i).filter (Vasedc.standsAt t h)
theorem cands_step (t : Text) (h : Hunk) (lo n : Nat) : candsL t h lo (n + 1) = candsL t h lo n ++ (if Vasedc.standsAt t h (lo + n) = true then [lo + n] else []) := by
  unfold candsL
  rw [List.range_succ, List.map_append, List.filter_append]
  congr 1
  show List.filter _ [lo + n] = _
  rw [List.filter_cons]
  rfl
theorem cands_len (t : Text) (h : Hunk) (lo n : Nat) : (candsL t h lo n).length ≤ n := by
  unfold candsL
  refine Nat.le_trans (List.length_filter_le _ _) ?_
  simp
theorem cands_mem {t : Text} {h : Hunk} {lo n x : Nat} : x ∈ candsL t h lo n ↔ lo ≤ x ∧ x < lo + n ∧ Vasedc.standsAt t h x = true := by
  unfold candsL
  rw [List.mem_filter, List.mem_map]
  constructor
  · rintro ⟨⟨i, hi, rfl⟩, hs⟩
    have := List.mem_range.mp hi
    exact ⟨by omega, by omega, hs⟩
  · rintro ⟨h1, h2, h3⟩
    exact ⟨⟨x - lo, List.mem_range.mpr (by omega), by omega⟩, h3⟩
theorem ok_place_for (A : FnAt K mg "place_for" s_place_for ["change", "lines", "end", "drift"]) (T : Txt K mg) (D_Change_stands_at : Dm P w K mg base CX0 1 (cA K "Change") "stands_at" ["self", "lines", "at"] (spStands K)) : Dn P w K mg base CX0 2 "place_for" ["change", "lines", "end", "drift"] (spPlace K) := A.dn fun f fd F => by
  refine ok0 F sc_place_for (fun vs H Q E h => ?_) (fun cdv A outer s H vs Q E hr h => ?_)
  · obtain ⟨c, b, h, t, e, d, rfl, _⟩ := h
    rfl
  obtain ⟨c, b, h, t, e, d, rfl, hc, ht, he, hz, hb, k⟩ := h
  obtain ⟨dx, b1, b2, b3, b4, h0, h1, h2, h3, h4⟩ := id hc
  obtain ⟨z1, z2, z3, z4⟩ := id hb
  refine ⟨_, (pss_cons (ps_set (i := 4) sc_place_for.nd rfl (Or.inr rfl) (pe_callB (call_max2 rfl) (by rfl) T.f_max (by decide +kernel) (pa_cons pe_int (pa_cons (pe_op op_add (pe_fld (pv 0) rfl) (pv 3)) pa_nil))))
      (pss_cons (ps_set (i := 5) sc_place_for.nd rfl (Or.inl rfl) (pe_op op_add (pv 2) (pe_callB call_len (by rfl) T.f_len PySem.boot_len (pa_cons (pe_fld (pv 0) rfl) pa_nil))))
      (pss_cons (ps_setLc (i := 6) (own := [("at", 8)]) (by rfl) sc_place_for.nd rfl rfl (sw_true rfl rfl rfl (by decide +kernel)) (pi_range2 (by rfl) T.f_range (pa_cons (pv 5) (pa_cons (pe_op op_add (pe_callB call_len (by rfl) T.f_len PySem.boot_len (pa_cons (pv 1) pa_nil)) pe_int) pa_nil))) (blkOk_by (own := [("at", 8)]) (N := ["change", "lines", "end", "drift", "wanted", "first", "places", "nearest", "at"]) (sc := defScope s_place_for) (by decide +kernel)) (fun _ _ _ _ _ => by exact (pg_name (i := 8) sc_place_for.nd rfl (Or.inl rfl))) (fun _ _ _ _ _ => by exact (pts_one (pt_val (pe_m D_Change_stands_at T.cl_Change (hr.mono (by decide)) pass0 (pv 0) (pa_cons (pv 1) (pa_cons (pv 8) pa_nil)))))) (fun _ _ _ _ _ => by exact (pv 8)))
      (pss_cons (ps_set (i := 7) sc_place_for.nd rfl (Or.inl rfl) (pe_minD (by rfl) hr.units (by rfl) T.f_min (by exact (pe_lc (own := [("at", 8)]) (by rfl) sc_place_for.nd (pi_list (pv 6)) (blkOk_by (own := [("at", 8)]) (N := ["change", "lines", "end", "drift", "wanted", "first", "places", "nearest", "at"]) (sc := defScope s_place_for) (by decide +kernel)) (fun _ _ _ _ _ => by exact (pg_name (i := 8) sc_place_for.nd rfl (Or.inl rfl))) (fun _ _ _ _ _ => pts_nil) (fun _ _ _ _ _ => by exact (pe_tup (pa_cons (pe_callB (call_max2 rfl) (by rfl) T.f_max (by decide +kernel) (pa_cons (pe_op op_sub (pv 8) (pv 4)) (pa_cons (pe_op op_sub (pv 4) (pv 8)) pa_nil))) (pa_cons (pv 8) pa_nil))))))))
      (pss_one (ps_ret (pe_ifExp (pt_cmpR op_isN (pv 7) pe_non (nomark _)) pe_non (pe_ix ix_tup (pv 7) pe_int (fun _ _ => rfl))))))))), ?_⟩
  have eW : (if (h.at_ : Int) + d > 0 then (h.at_ : Int) + d else 0) = ((((h.at_ : Int) + d).toNat : Nat) : Int) := by split <;> omega
  obtain ⟨W, hW⟩ : ∃ W, W = ((h.at_ : Int) + d).toNat := ⟨_, rfl⟩
  obtain ⟨L, hL⟩ : ∃ L, L = e + h.ahead.length := ⟨_, rfl⟩
  refine ⟨_, rfl, c, _, dx, _, _, rfl, h0, T.cl_Change, T.na_Change_place, lk_Change_place, _, rfl, _, _, rfl, rfl, _, _, rfl, ?_⟩
  rw [eW, ← hW]
  refine ⟨_, rfl, _, rfl, c, _, dx, _, _, rfl, h0, T.cl_Change, T.na_Change_before, lk_Change_before, _, h.ahead.length, rfl, .inl ⟨_, .of h1, vT_len.symm⟩, _, _, rfl, rfl, ?_⟩
  show gName 5 (V.int ((e : Int) + (h.ahead.length : Int))) _ _ _
  rw [show (e : Int) + (h.ahead.length : Int) = (L : Int) from by omega]
  refine ⟨_, rfl, _, rfl, _, t.length, rfl, .inl ⟨_, .of ht, vT_len.symm⟩, _, _, rfl, rfl, _, _, rfl, by omega, fun D hD => lc_range (lo := (L : Int)) (n := ((t.length : Int) + 1 - (L : Int)).toNat)
    (fun i H' => Same H H' ∧ H' D = some (.lst ((candsL t h L i).map fun x => V.int (x : Nat)))) ⟨(Same.refl H).new hD, upd_same⟩ ?_ ?_⟩
  · rintro i H' hi ⟨s1, hl⟩
    show gName 8 (.int ((L : Int) + (i : Nat))) _ _ _
    rw [show (L : Int) + (i : Nat) = ((L + i : Nat) : Int) from by omega]
    have lc := cands_len t h L i
    refine ⟨rfl, _, rfl, c, dx, _, rfl, s1 _ _ h0, nl_Change_stands_at, _, rfl, _, rfl, c, b, h, t, L + i, rfl, hc.mono s1, s1 _ _ ht, by omega, by omega, by omega, fun H5 s5 => ⟨_, rfl, ?_⟩⟩
    refine if_of (fun cc => ?_) (fun cc => ?_)
    · refine ⟨_, rfl, _, s5 _ _ hl, small (by rw [List.length_map]; omega), (s1.trans s5).mut hD, ?_⟩
      rw [upd_same, cands_step, if_pos cc, List.map_append]
      rfl
    · refine ⟨s1.trans s5, ?_⟩
      rw [cands_step, if_neg (by rw [cc]; exact Bool.false_ne_true), List.append_nil]
      exact s5 _ _ hl
  · rintro H2 ⟨s2, hl⟩
    have lc := cands_len t h L ((t.length : Int) + 1 - (L : Int)).toNat
    have cm : ∀ x, x ∈ candsL t h L ((t.length : Int) + 1 - (L : Int)).toNat ↔ L ≤ x ∧ x ≤ t.length ∧ Vasedc.standsAt t h x = true := fun x => by
      rw [cands_mem]
      constructor
      · rintro ⟨a1, a2, a3⟩
        exact ⟨a1, by omega, a3⟩
      · rintro ⟨a1, a2, a3⟩
        exact ⟨a1, by omega, a3⟩
    have lcn : (candsL t h L ((t.length : Int) + 1 - (L : Int)).toNat).length ≤ 1000 := by omega
    generalize candsL t h L ((t.length : Int) + 1 - (L : Int)).toNat = cs at hl cm lcn
    clear lc
    refine ⟨_, rfl, D, rfl, ⟨_, .of hl⟩, fun D2 hD2 => lc_map (fun x : Nat => V.int (x : Nat)) (fun pre H' => Same H2 H' ∧ ∃ ts, H' D2 = some (.lst (ts.map V.ref)) ∧ Paired (fun (p : Int × Int) t => H' t = some (.tup [.int p.1, .int p.2])) (pre.map fun x => ((dst W x : Nat), (x : Nat))) ts) ⟨(Same.refl H2).new hD2, [], upd_same, .nil⟩ (fun pre H' h => .of (h.1 _ _ hl)) ?_ ?_⟩
    · rintro pre x post H' ee ⟨s3, ts, hl2, hp2⟩
      have lp := pre_len ee
      have lt := Paired.length hp2
      rw [List.length_map] at lt
      have em : (if (W : Int) - (x : Nat) > (x : Nat) - (W : Int) then (W : Int) - (x : Nat) else (x : Nat) - (W : Int)) = ((dst W x : Nat) : Int) := by unfold dst; split <;> omega
      refine ⟨rfl, yes ?_⟩
      refine ⟨_, rfl, _, rfl, _, _, rfl, rfl, _, rfl, _, rfl, _, _, rfl, rfl, _, _, rfl, ?_⟩
      rw [em]
      refine ⟨_, rfl, by show 2 ≤ sizeLine; decide, fun q hq => ?_⟩
      have qD : D2 ≠ q := fun z => by rw [z, hq] at hl2; cases hl2
      refine ⟨ts.map V.ref, by rw [upd_ne qD]; exact hl2, small (by rw [List.length_map]; omega), (s3.new hq).mut hD2, ts ++ [q], ?_, ?_⟩
      · rw [upd_same, List.map_append]
        rfl
      · rw [List.map_append]
        refine Paired.one (Paired.mapP hp2 fun p t e => ?_) ?_
        · rw [upd_ne (fun z => by rw [z, hl2] at e; cases e), upd_ne (fun z => by rw [z, hq] at e; cases e)]
          exact e
        · rw [upd_ne (Ne.symm qD), upd_same]
    · rintro H3 ⟨s3, ts, hl2, hp2⟩
      have s03 := s2.trans s3
      refine ⟨D2, ts, cs.map fun x => ((dst W x : Nat), (x : Nat)), rfl, rfl, hl2, hp2, fun ee => ?_, fun tt p hp htt hmin => ?_⟩
      · refine ⟨_, rfl, rfl, _, rfl, if_of (fun _ => ?_) (fun cc => by simp at cc)⟩
        have ce : cs = [] := by simpa using ee
        have z := k H3 s03
        have ef : findP t h e d = none := find_none (m := t.length) (Nat.sub_le _ _) fun i i1 i2 => by
          cases hh : Vasedc.standsAt t h i with
          | false => rfl
          | true =>
            have := (cm i).mpr ⟨by omega, i2, hh⟩
            rw [ce] at this
            cases this
        rw [ef] at z
        exact z
      · obtain ⟨i, hi, rfl⟩ := List.mem_map.mp hp
        refine ⟨_, rfl, rfl, _, rfl, if_of (fun cc => by simp at cc) (fun _ => ⟨_, rfl, tt, _, _, _, rfl, rfl, .of htt, rfl, ?_⟩)⟩
        obtain ⟨i1, i2, i3⟩ := (cm i).mp hi
        have z := k H3 s03
        have ef : findP t h e d = some i := find_some (m := t.length) (Nat.sub_le _ _) (fun j j1 j2 j3 => by have := stands_le j3 j2; omega) (by omega) i2 i3 fun j j1 j2 j3 => by
          have := hmin (((dst W j : Nat) : Int), ((j : Nat) : Int)) (List.mem_map.mpr ⟨j, (cm j).mpr ⟨by omega, j2, j3⟩, rfl⟩)
          unfold plt at this
          rw [hW] at this
          omega
        rw [ef] at z
        exact z
abbrev s_put_to : Stmt := topS 2
theorem sc_put_to : FnScope ["changes", "lines", "found", "end", "drift", "k", "change", "at"] ["changes", "lines"] (defScope s_put_to) := ⟨rfl, rfl, rfl, by decide +kernel, rfl, by decide +kernel, by decide +kernel⟩
/-- what comes of changes put to a text: a tuple -/
def PutR (H : Hp) (r : Addr) : Except Nat Text → Prop
  | .ok w => ∃ l, H r = some (.tup [.ref l, .non]) ∧ H l = some (.lst (vT w))
  | .error k => H r = some (.tup [.non, .int (k : Nat)])
def spPut (K : Frag) : Sp := fun vs H Q _ => ∃ (c b : Addr) (hs : List Hunk) (t : Text), vs = [.ref c, .ref b] ∧ LCh K H c hs ∧ H b = some (.lst (vT t)) ∧ t.length ≤ 100 ∧ hs.length ≤ 1000 ∧ (∀ h ∈ hs, HB h) ∧ ∀ r H', Same H H' → PutR H' r (Vasedc.driftBy t 0 0 0 hs) → Q (.ref r) H'
theorem ok_put_to (A : FnAt K mg "put_to" s_put_to ["changes", "lines"]) (T : Txt K mg) (D_place_for : Dn P w K mg base CX0 2 "place_for" ["change", "lines", "end", "drift"] (spPlace K)) : Dn P w K mg base CX0 3 "put_to" ["changes", "lines"] (spPut K) := A.dn fun f fd F => by
  refine ok0 F sc_put_to (fun vs H Q E h => ?_) (fun cdv A outer s H vs Q E hr h => ?_)
  · obtain ⟨c, b, hs, t, rfl, _⟩ := h
    rfl
  obtain ⟨c, b, hs, t, rfl, hc, ht, tz, hz, hb, k⟩ := h
  obtain ⟨cs, hc1, hc2⟩ := id hc
  have lc := Paired.length hc2
  refine ⟨_, (pss_cons (ps_set (i := 2) sc_put_to.nd rfl (Or.inl rfl) (pe_lst pa_nil))
      (pss_cons (ps_set (i := 3) sc_put_to.nd rfl (Or.inl rfl) pe_int)
      (pss_cons (ps_set (i := 4) sc_put_to.nd rfl (Or.inl rfl) pe_int)
      (pss_cons (ps_for PassesOwn.never rfl (pi_enum (by rfl) T.f_enumerate (pa_cons (pv 0) pa_nil)) (pg_tup (by rfl) (pgs_cons (pg_name (i := 5) sc_put_to.nd rfl (Or.inl rfl)) (pgs_cons (pg_name (i := 6) sc_put_to.nd rfl (Or.inl rfl)) pgs_nil)))
      (pss_cons (ps_set (i := 7) sc_put_to.nd rfl (Or.inl rfl) (pe_f D_place_for (hr.mono (by decide)) pass0 (pa_cons (pv 6) (pa_cons (pv 1) (pa_cons (pv 3) (pa_cons (pv 4) pa_nil))))))
      (pss_cons (ps_if (pt_cmpR op_isN (pv 7) pe_non (nomark _))
      (pss_one (ps_ret (pe_tup (pa_cons pe_non (pa_cons (pv 5) pa_nil)))))
      pss_nil)
      (pss_cons (ps_set (i := 2) sc_put_to.nd rfl (Or.inl rfl) (pe_op op_cat (pe_op op_cat (pv 2) (pe_slice sl_list (pv 1) (po_some (pv 3)) (po_some (pv 7)))) (pe_fld (pv 6) rfl)))
      (pss_cons (ps_set (i := 3) sc_put_to.nd rfl (Or.inl rfl) (pe_op op_add (pv 7) (pe_callB call_len (by rfl) T.f_len PySem.boot_len (pa_cons (pe_fld (pv 6) rfl) pa_nil))))
      (pss_one (ps_set (i := 4) sc_put_to.nd rfl (Or.inl rfl) (pe_op op_sub (pv 7) (pe_fld (pv 6) rfl)))))))))
      (pss_one (ps_ret (pe_tup (pa_cons (pe_op op_cat (pv 2) (pe_slice sl_list (pv 1) (po_some (pv 3)) po_none)) (pa_cons pe_non pa_nil))))))))), ?_⟩
  refine ⟨by show 0 ≤ sizeLine; decide, fun F0 hF0 => ?_⟩
  have s0 := (Same.refl H).new (o := .lst []) hF0
  refine ⟨_, rfl, c, _, rfl, .of (s0 _ _ hc1), ?_⟩
  refine for_it walk_enum (fun i σ H' => ∃ x5 x6 x7, ∃ (e : Nat) (d : Int) (l : Addr) (acc : Text), σ = [some (.ref c), some (.ref b), some (.ref l), some (.int (e : Nat)), some (.int d), x5, x6, x7] ∧ Same H H' ∧ H' l = some (.lst (vT acc)) ∧ acc.length ≤ i * 300 ∧ e ≤ t.length ∧
    Vasedc.driftBy t 0 0 0 hs = afterL acc (Vasedc.driftBy t i e d (hs.drop i))) ?_ (fun i σ H' _ h => by obtain ⟨_, _, _, _, _, _, _, _, s, _⟩ := h; exact .of (s _ _ hc1)) ?_ ?_
  · exact ⟨none, none, none, 0, 0, F0, [], rfl, s0, upd_same, by simp, Nat.zero_le _, (afterL_nil _).symm⟩
  · rintro i x σ H' H'' hi ⟨x5, x6, x7, e, d, l, acc, rfl, s1, hl, la, he, eq⟩ ⟨T0, x0, y0, rfl, hT, rfl, ex0, ey0⟩
    cases ex0
    have ey0 : (cs.map V.ref)[i]? = some y0 := ey0
    rw [List.getElem?_map] at ey0
    obtain ⟨ch, eb, rfl⟩ := Option.map_eq_some_iff.mp ey0
    obtain ⟨h, eh, hch⟩ := Paired.at hc2 eb
    obtain ⟨lt, eg⟩ := List.getElem?_eq_some_iff.mp eh
    have hbh := hb h (List.mem_of_getElem? eh)
    have s2 := s1.new (o := .tup [V.int (i : Nat), V.ref ch]) hT
    rw [List.drop_eq_getElem_cons lt, eg, drift_cons] at eq
    refine ⟨T0, _, rfl, .of upd_same, rfl, _, _, rfl, _, _, rfl, rfl, ?_⟩
    refine ⟨_, rfl, _, rfl, _, rfl, _, rfl, ch, b, h, t, e, d, rfl, hch.mono s2, s2 _ _ ht, he, tz, hbh, fun H5 s5 => ?_⟩
    have s25 := s2.trans s5
    have hl5 := s5 _ _ ((Same.refl H').new hT _ _ hl)
    obtain ⟨dx, b1, b2, b3, b4, h0, h1, h2, h3, h4⟩ := hch.mono s25
    obtain ⟨z1, z2, z3, z4⟩ := id hbh
    have eP : (Vasedc.placesBy (e + h.ahead.length) (t.length - h.old.length) ((h.at_ : Int) + d).toNat).find? (Vasedc.standsAt t h) = findP t h e d := rfl
    rw [eP] at eq
    cases hf : findP t h e d with
    | none =>
      rw [hf] at eq
      refine ⟨_, rfl, rfl, _, rfl, if_of (fun _ => ?_) (fun cc => by simp [plV] at cc)⟩
      refine ⟨_, rfl, by show 2 ≤ sizeLine; decide, fun r hr' => k r _ (s25.new hr') ?_⟩
      rw [eq]
      exact upd_same
    | some j =>
      rw [hf] at eq
      have eq : Vasedc.driftBy t 0 0 0 hs = afterL acc ((Vasedc.driftBy t (i + 1) (j + h.old.length) ((j : Int) - (h.at_ : Int)) (hs.drop (i + 1))).map fun l => (t.drop e).take (j - e) ++ (h.new ++ l)) := eq
      rw [afterL_map] at eq
      have hst := List.find?_some (eP.trans hf)
      have hmm := List.mem_of_find?_eq_some (eP.trans hf)
      rw [places_eq] at hmm
      obtain ⟨dd, _, hdd⟩ := List.mem_flatMap.mp hmm
      obtain ⟨j1, j2, _⟩ := plF_mem hdd
      have j3 := stands_le hst (by omega)
      refine ⟨_, rfl, rfl, _, rfl, if_of (fun cc => by simp [plV] at cc) (fun _ => ?_)⟩
      refine ⟨_, rfl, _, rfl, _, rfl, _, rfl, _, rfl, _, rfl, b, _, rfl, .of (s25 _ _ ht), fun q hq => ?_⟩
      have s6 := s25.new (o := .lst (cutV (vT t) (some (e : Int)) (some (j : Int)))) hq
      have ql : l ≠ q := fun z => by rw [z, hq] at hl5; cases hl5
      refine ⟨l, q, _, _, rfl, rfl, by rw [upd_ne ql]; exact hl5, upd_same, ?_, fun p hp => ?_⟩
      · have := cutV_length (vT t) (some (e : Int)) (some (j : Int))
        rw [vT_len] at this ⊢
        exact small' (by omega)
      have s7 := s6.new (o := .lst (vT acc ++ cutV (vT t) (some (e : Int)) (some (j : Int)))) hp
      have ec : vT acc ++ cutV (vT t) (some (e : Int)) (some (j : Int)) = vT (acc ++ (t.drop e).take (j - e)) := by
        rw [cutV_to _ _ _ (by omega) (by rw [vT_len]; omega)]
        simp [vT, List.map_drop, List.map_take]
      rw [ec] at s7 ⊢
      have q7 : Same H5 (upd (upd H5 q (.lst (cutV (vT t) (some (e : Int)) (some (j : Int))))) p (.lst (vT (acc ++ (t.drop e).take (j - e))))) := ((Same.refl H5).new hq).new hp
      refine ⟨_, rfl, ch, _, dx, _, _, rfl, q7 _ _ h0, T.cl_Change, T.na_Change_ins, lk_Change_ins, ?_⟩
      have lz : (acc ++ (t.drop e).take (j - e)).length ≤ acc.length + 100 := by
        rw [List.length_append, List.length_take, List.length_drop]
        omega
      refine ⟨p, b3, _, _, rfl, rfl, upd_same, q7 _ _ h3, small' (by rw [vT_len, vT_len]; omega), fun r hr' => ?_⟩
      have q8 := q7.new (o := .lst (vT (acc ++ (t.drop e).take (j - e)) ++ vT h.new)) hr'
      refine ⟨_, rfl, _, rfl, ch, _, dx, _, _, rfl, q8 _ _ h0, T.cl_Change, T.na_Change_outs, lk_Change_outs, _, h.old.length, rfl, .inl ⟨_, .of (q8 _ _ h2), vT_len.symm⟩, _, _, rfl, rfl, ?_⟩
      refine ⟨_, rfl, _, rfl, ch, _, dx, _, _, rfl, q8 _ _ h0, T.cl_Change, T.na_Change_place, lk_Change_place, _, _, rfl, rfl, ?_⟩
      refine ⟨some (.int (i : Nat)), some (.ref ch), some (.int (j : Nat)), j + h.old.length, (j : Int) - (h.at_ : Int), r, acc ++ (t.drop e).take (j - e) ++ h.new, rfl, s25.trans q8, ?_, ?_, j3, eq⟩
      · rw [upd_same]
        simp [vT]
      · rw [List.length_append, Nat.add_mul]
        omega
  · rintro σ H' ⟨x5, x6, x7, e, d, l, acc, rfl, s1, hl, la, he, eq⟩
    rw [List.length_map, ← lc] at eq la
    rw [List.drop_of_length_le (Nat.le_refl hs.length)] at eq
    have eq : Vasedc.driftBy t 0 0 0 hs = .ok (acc ++ t.drop e) := eq
    refine ⟨_, rfl, _, rfl, _, rfl, _, rfl, b, _, rfl, .of (s1 _ _ ht), fun q hq => ?_⟩
    have ql : l ≠ q := fun z => by rw [z, hq] at hl; cases hl
    refine ⟨l, q, _, _, rfl, rfl, by rw [upd_ne ql]; exact hl, upd_same, ?_, fun p hp => ?_⟩
    · have := cutV_length (vT t) (some (e : Int)) none
      rw [vT_len] at this ⊢
      exact small' (by omega)
    refine ⟨by show 2 ≤ sizeLine; decide, fun r hr' => ?_⟩
    have pr : p ≠ r := fun z => by rw [← z, upd_same] at hr'; cases hr'
    refine k r _ (((s1.new hq).new hp).new hr') ?_
    rw [eq]
    refine ⟨p, upd_same, ?_⟩
    rw [upd_ne pr, upd_same, cutV_from _ _ (by rw [vT_len]; omega)]
    simp [vT, List.map_drop]
end
end Lp
end
section
set_option maxHeartbeats 4000000
/-! ### scripts by line numbers -/
namespace Lp
open PySem PySem.Spec PyProof.Rows L2
open PySem.W (Frag)
open VasedBase (Bytes word showNat)
open Vaseda (Line Text Cmd showCmd)
open Vasedc (Op Patch)
theorem sOf_list (b : Bytes) : (sOf b).cps.toList = b.map UInt8.toNat := by simp [sOf]
theorem str_ext {a b : Str} (h : a.cps.toList = b.cps.toList) : a = b := by
  cases a
  cases b
  congr 1
  exact Array.toList_inj.mp h
theorem sOf_app (a b : Bytes) : sOf (a ++ b) = sOf a ++ sOf b := by
  refine str_ext ?_
  rw [sOf_list, List.map_append]
  show _ = ((sOf a).cps ++ (sOf b).cps).toList
  rw [Array.toList_append, sOf_list, sOf_list]
theorem sOf_num (n : Nat) : Str.ofString (toString ((n : Nat) : Int)) = sOf (showNat n) := by
  refine str_ext ?_
  rw [PySem.W.KIN.signs_num, sOf_list]
  unfold showNat
  rw [List.map_map]
  refine List.map_congr_left fun c hc => ?_
  have h := Nat.isDigit_of_mem_toDigits (b := 10) (by decide) (by decide) hc
  have h2 : c.toNat < 256 := by
    simp only [Char.isDigit, Bool.and_eq_true, decide_eq_true_eq] at h
    have := UInt32.le_iff_toNat_le.mp h.2
    exact Nat.lt_of_le_of_lt this (by decide)
  show c.toNat = (UInt8.ofNat c.toNat).toNat
  rw [UInt8.toNat_ofNat', Nat.mod_eq_of_lt h2]
theorem num_len (n : Nat) : (showNat n).length ≤ n + 1 := by
  unfold showNat
  rw [List.length_map]
  exact toDigits_len_le 10 n
/-- a text in a list of texts -/
theorem inV_map (x : Bytes) : ∀ ws : List Bytes, inV (vS x) (ws.map vS) = ws.contains x
  | [] => rfl
  | y :: ws => by
    show ((sOf y == sOf x) || inV (vS x) (ws.map vS)) = _
    rw [inV_map x ws, List.contains_cons]
    congr 1
    rw [Bool.eq_iff_iff, beq_iff_eq, beq_iff_eq, sOf_eq]
    exact ⟨Eq.symm, Eq.symm⟩
theorem own_words {K : Frag} {mg : Str → Option Value} (T : Txt K mg) (H : Hp) : SqT K H (cA K "OWN_WORDS") (VasedBase.RESERVED.map vS) := T.tt_OWN_WORDS H
theorem flat_texts : ∀ ws : List Bytes, (ws.map vS).all flatV = true
  | [] => rfl
  | _ :: ws => by
    show (true && (ws.map vS).all flatV) = true
    rw [flat_texts ws]
    rfl
/-- the line of a command -/
def putCmd (n : Nat) (x : Line) : Cmd := if n = 0 then ⟨.line 1, .before x⟩ else ⟨.line n, .after x⟩
theorem show_before (x : Line) : showCmd ⟨.line 1, .before x⟩ = word "if line 1 before " ++ x ++ word " ;\n" := by
  have e1 : word "if line 1 before " = word "if " ++ ((word "line " ++ showNat 1) ++ word " ") ++ word "before " := by decide +kernel
  have e2 : word " ;\n" = word " ;" ++ [10] := by decide +kernel
  rw [e1, e2]
  simp [showCmd, Vaseda.showAddr, Vaseda.showDeed]
theorem show_after (n : Nat) (x : Line) : showCmd ⟨.line n, .after x⟩ = word "if line " ++ showNat n ++ word " after " ++ x ++ word " ;\n" := by
  have e1 : word "if line " = word "if " ++ word "line " := by decide +kernel
  have e2 : word " after " = word " " ++ word "after " := by decide +kernel
  have e3 : word " ;\n" = word " ;" ++ [10] := by decide +kernel
  rw [e1, e2, e3]
  simp [showCmd, Vaseda.showAddr, Vaseda.showDeed]
theorem show_delete (n : Nat) : showCmd ⟨.line n, .delete⟩ = word "if line " ++ showNat n ++ word " delete ;\n" := by
  have e1 : word "if line " = word "if " ++ word "line " := by decide +kernel
  have e2 : word " delete ;\n" = word " " ++ (word "delete" ++ (word " ;" ++ [10])) := by decide +kernel
  rw [e1, e2]
  simp [showCmd, Vaseda.showAddr, Vaseda.showDeed]
abbrev vC (cs : List Cmd) : List V := cs.map fun c => vS (showCmd c)
/-- the commands, one after the other -/
def delOf (n : Nat) (gone : Bool) : List Cmd := if gone = true then [⟨.line n, .delete⟩] else []
theorem cmds_ahead : ∀ (p : Patch) (n : Nat) (ahead : List Cmd) (gone : Bool), Vasedc.cmdsBy n ahead gone p = ahead ++ Vasedc.cmdsBy n [] gone p
  | [], n, ahead, gone => rfl
  | .put x :: r, n, ahead, gone => by
    show Vasedc.cmdsBy n (ahead ++ [putCmd n x]) gone r = ahead ++ Vasedc.cmdsBy n ([] ++ [putCmd n x]) gone r
    rw [cmds_ahead r, cmds_ahead r n ([] ++ [putCmd n x])]
    simp
  | .keep x :: r, n, ahead, gone => rfl
  | .drop x :: r, n, ahead, gone => rfl
theorem cmds_put (n : Nat) (gone : Bool) (x : Line) (r : Patch) : Vasedc.cmdsBy n [] gone (.put x :: r) = putCmd n x :: Vasedc.cmdsBy n [] gone r := cmds_ahead r n [putCmd n x] gone
theorem cmds_keep (n : Nat) (gone : Bool) (x : Line) (r : Patch) : Vasedc.cmdsBy n [] gone (.keep x :: r) = delOf n gone ++ Vasedc.cmdsBy (n + 1) [] false r := rfl
theorem cmds_drop (n : Nat) (gone : Bool) (x : Line) (r : Patch) : Vasedc.cmdsBy n [] gone (.drop x :: r) = delOf n gone ++ Vasedc.cmdsBy (n + 1) [] true r := rfl
theorem cmds_nil (n : Nat) (gone : Bool) : Vasedc.cmdsBy n [] gone [] = delOf n gone := rfl
/-- lines that aren't too long -/
def LnOk (p : Patch) : Prop := ∀ o ∈ p, (Vasedc.lineIn o).length ≤ 1000
section
variable {P : Program} {w : World} {K : Frag} {mg : Str → Option Value} {base : Heap}
abbrev s_is_told : Stmt := topS 73
theorem sc_is_told : FnScope ["letters"] ["letters"] (defScope s_is_told) := ⟨rfl, rfl, rfl, by decide +kernel, rfl, by decide +kernel, by decide +kernel⟩
def spTold : Sp := fun vs H Q _ => ∃ x : Line, vs = [vS x] ∧ x.length ≤ 1000 ∧ Q (.bl (Vasedc.tellable x)) H
theorem ok_is_told (A : FnAt K mg "is_told" s_is_told ["letters"]) (T : Txt K mg) : Dn P w K mg base CX0 1 "is_told" ["letters"] spTold := A.dn fun f fd F => by
  refine ok0 F sc_is_told (fun vs H Q E h => ?_) (fun cdv A outer s H vs Q E hr h => ?_)
  · obtain ⟨x, rfl, _⟩ := h
    rfl
  obtain ⟨x, rfl, hx, k⟩ := h
  refine ⟨_, (pss_one (ps_ret (pe_and (pe_chain op_le op_le pe_int (pe_callB call_len (by rfl) T.f_len PySem.boot_len (pa_cons (pv 0) pa_nil)) (pe_gint T.g_MOST_LETTERS_numbered)) (pe_one (pe_cmpR op_notIn_seq (pv 0) (pe_gref T.g_OWN_WORDS) (by rfl)))))), ?_⟩
  have e : Vasedc.tellable x = (decide (1 ≤ x.length ∧ x.length ≤ 8) && !VasedBase.RESERVED.contains x) := rfl
  refine ⟨_, rfl, _, x.length, rfl, ⟨by rw [sOf_len]; exact small' (by omega), (sOf_len x).symm⟩, _, _, rfl, rfl, _, rfl, ?_⟩
  refine if_of (fun c => ?_) (fun c => ?_)
  · refine ⟨_, _, rfl, rfl, _, rfl, if_of (fun c2 => ?_) (fun c2 => ?_)⟩
    · refine ⟨_, rfl, _, _, rfl, .inr (own_words T _), rfl, flat_texts _, ?_⟩
      have c := of_decide_eq_true c
      have c2 := of_decide_eq_true c2
      rw [e, decide_eq_true (by omega), Bool.true_and] at k
      show Q (.bl (!inV (vS x) (VasedBase.RESERVED.map vS))) H
      rw [inV_map]
      exact k
    · have c2 := of_decide_eq_false c2
      rw [e, decide_eq_false (by omega), Bool.false_and] at k
      exact k
  · have c := of_decide_eq_false c
    rw [e, decide_eq_false (by omega), Bool.false_and] at k
    exact ⟨_, rfl, k⟩
abbrev s_put_in_text : Stmt := topS 74
theorem sc_put_in_text : FnScope ["number", "letters"] ["number", "letters"] (defScope s_put_in_text) := ⟨rfl, rfl, rfl, by decide +kernel, rfl, by decide +kernel, by decide +kernel⟩
def spPutIn : Sp := fun vs H Q _ => ∃ (n : Nat) (x : Line), vs = [.int (n : Nat), vS x] ∧ n ≤ 1000 ∧ x.length ≤ 1000 ∧ Q (vS (showCmd (putCmd n x))) H
theorem log2_small {n : Nat} (h : n ≤ 1000) : ((n : Int)).natAbs.log2 < 1920 := by
  show Nat.log2 n < 1920
  by_cases h0 : n = 0
  · subst h0
    decide
  · rw [Nat.log2_lt h0]
    exact Nat.lt_of_le_of_lt h (Nat.lt_of_lt_of_le (by decide : 1000 < 2 ^ 10) (Nat.pow_le_pow_right (by decide) (by decide)))
theorem lit_len (b : Bytes) (n : Nat) (h : b.length = n) : (sOf b).length = n := by rw [sOf_len, h]
theorem ok_put_in_text (A : FnAt K mg "put_in_text" s_put_in_text ["number", "letters"]) (T : Txt K mg) : Dn P w K mg base CX0 1 "put_in_text" ["number", "letters"] spPutIn := A.dn fun f fd F => by
  refine ok0 F sc_put_in_text (fun vs H Q E h => ?_) (fun cdv A outer s H vs Q E hr h => ?_)
  · obtain ⟨n, x, rfl, _⟩ := h
    rfl
  obtain ⟨n, x, rfl, hn, hx, k⟩ := h
  refine ⟨_, (pss_cons (ps_if (pt_cmpR op_eq (pv 0) pe_int (nomark _))
      (pss_one (ps_ret (pe_op op_add_str (pe_op op_add_str pe_str (pv 1)) pe_str)))
      pss_nil)
      (pss_one (ps_ret (pe_op op_add_str (pe_op op_add_str (pe_op op_add_str (pe_op op_add_str pe_str (pe_callTy call_str_int (by rfl) T.f_str (by decide +kernel) (pa_cons (pv 0) pa_nil))) pe_str) (pv 1)) pe_str)))), ?_⟩
  have l1 : (Str.ofString "if line 1 before ") = sOf (word "if line 1 before ") := by decide +kernel
  have l2 : (Str.ofString " ;\n") = sOf (word " ;\n") := by decide +kernel
  have l3 : (Str.ofString "if line ") = sOf (word "if line ") := by decide +kernel
  have l4 : (Str.ofString " after ") = sOf (word " after ") := by decide +kernel
  have w1 : (word "if line 1 before ").length = 17 := by decide +kernel
  have w2 : (word " ;\n").length = 3 := by decide +kernel
  have w3 : (word "if line ").length = 8 := by decide +kernel
  have w4 : (word " after ").length = 7 := by decide +kernel
  have wn := num_len n
  rw [l1, l2, l3, l4]
  refine ⟨_, rfl, rfl, _, rfl, if_of (fun c => ?_) (fun c => ?_)⟩
  · have c : V.int (n : Int) = V.int 0 := of_decide_eq_true c
    have c : n = 0 := by
      have c : (n : Int) = 0 := by injection c
      omega
    subst c
    refine ⟨_, rfl, _, _, rfl, rfl, ?_, _, _, rfl, rfl, ?_, ?_⟩
    · rw [sOf_len, sOf_len, w1]
      exact small' (by omega)
    · rw [← sOf_app, sOf_len, sOf_len, List.length_append, w1, w2]
      exact small' (by omega)
    · rw [← sOf_app, ← sOf_app, ← show_before]
      exact k
  · have c : ¬ V.int (n : Int) = V.int 0 := of_decide_eq_false c
    have c : n ≠ 0 := fun z => c (by rw [z]; rfl)
    have ep : putCmd n x = ⟨.line n, .after x⟩ := if_neg c
    rw [ep, show_after] at k
    refine ⟨_, rfl, _, rfl, log2_small hn, _, _, rfl, rfl, ?_, _, _, rfl, rfl, ?_, _, rfl, _, _, rfl, rfl, ?_, _, _, rfl, rfl, ?_, ?_⟩
    · rw [sOf_num, sOf_len, sOf_len, w3]
      exact small' (by omega)
    · rw [sOf_num, ← sOf_app, sOf_len, sOf_len, List.length_append, w3, w4]
      exact small' (by omega)
    · rw [sOf_num, ← sOf_app, ← sOf_app, sOf_len, sOf_len, List.length_append, List.length_append, w3, w4]
      exact small' (by omega)
    · rw [sOf_num, ← sOf_app, ← sOf_app, ← sOf_app, sOf_len, sOf_len, List.length_append, List.length_append, List.length_append, w3, w4, w2]
      exact small' (by omega)
    · rw [sOf_num, ← sOf_app, ← sOf_app, ← sOf_app, ← sOf_app]
      exact k
abbrev s_commands_for : Stmt := topS 75
theorem sc_commands_for : FnScope ["marks", "found", "waiting", "number", "kind", "letters"] ["marks"] (defScope s_commands_for) := ⟨rfl, rfl, rfl, by decide +kernel, rfl, by decide +kernel, by decide +kernel⟩
def spCmds : Sp := fun vs H Q _ => ∃ (a : Addr) (p : Patch), vs = [.ref a] ∧ MkAt H a p ∧ p.length ≤ 900 ∧ LnOk p ∧ ∀ r H', Same H H' → H' r = some (.lst (vC (Vasedc.cmdsBy 0 [] false p))) → Q (.ref r) H'
theorem ok_commands_for (A : FnAt K mg "commands_for" s_commands_for ["marks"]) (T : Txt K mg) (D_put_in_text : Dn P w K mg base CX0 1 "put_in_text" ["number", "letters"] spPutIn) : Dn P w K mg base CX0 2 "commands_for" ["marks"] spCmds := A.dn fun f fd F => by
  refine ok0 F sc_commands_for (fun vs H Q E h => ?_) (fun cdv A outer s H vs Q E hr h => ?_)
  · obtain ⟨a, p, rfl, _⟩ := h
    rfl
  obtain ⟨a, p, rfl, hm, hz, hL, k⟩ := h
  obtain ⟨ts0, h1, _⟩ := id hm
  refine ⟨_, (pss_cons (ps_set (i := 1) sc_commands_for.nd rfl (Or.inl rfl) (pe_lst pa_nil))
      (pss_cons (ps_set (i := 2) sc_commands_for.nd rfl (Or.inl rfl) (pe_lst pa_nil))
      (pss_cons (ps_set (i := 3) sc_commands_for.nd rfl (Or.inl rfl) pe_int)
      (pss_cons (ps_for PassesOwn.never rfl (pi_list (pv 0)) (pg_tup (by rfl) (pgs_cons (pg_name (i := 4) sc_commands_for.nd rfl (Or.inl rfl)) (pgs_cons (pg_name (i := 5) sc_commands_for.nd rfl (Or.inl rfl)) pgs_nil)))
      (pss_one (ps_if (pt_cmpR op_eq (pv 4) (pe_gint T.g_IN) (nomark _))
      (pss_one (ps_expr (pe_bm PySem.F.plainAttrs_list PySem.F.slot_list_append PySem.F.type_list_append mt_append (pv 1) (pa_cons (pe_f D_put_in_text (hr.mono (by decide)) pass0 (pa_cons (pv 3) (pa_cons (pv 5) pa_nil))) pa_nil))))
      (pss_cons (ps_aug (i := 3) sc_commands_for.nd rfl (.inl rfl) pe_int ip_add)
      (pss_cons (ps_set (i := 1) sc_commands_for.nd rfl (Or.inl rfl) (pe_op op_cat (pv 1) (pv 2)))
      (pss_one (ps_set (i := 2) sc_commands_for.nd rfl (Or.inl rfl) (pe_ifExp (pt_cmpR op_eq (pv 4) (pe_gint T.g_KEPT) (nomark _)) (pe_lst pa_nil) (pe_lst (pa_cons (pe_op op_add_str (pe_op op_add_str pe_str (pe_callTy call_str_int (by rfl) T.f_str (by decide +kernel) (pa_cons (pv 3) pa_nil))) pe_str) pa_nil))))))))))
      (pss_one (ps_ret (pe_op op_cat (pv 1) (pv 2)))))))), ?_⟩
  have l3 : (Str.ofString "if line ") = sOf (word "if line ") := by decide +kernel
  have l4 : (Str.ofString " delete ;\n") = sOf (word " delete ;\n") := by decide +kernel
  have w3 : (word "if line ").length = 8 := by decide +kernel
  have w4 : (word " delete ;\n").length = 10 := by decide +kernel
  rw [l3, l4]
  refine ⟨by show 0 ≤ sizeLine; decide, fun F0 hF0 => ⟨by show 0 ≤ sizeLine; decide, fun W0 hW0 => ?_⟩⟩
  have s0 := ((Same.refl H).new (o := .lst []) hF0).new (o := .lst []) hW0
  have nFW : F0 ≠ W0 := fun z => by rw [← z, upd_same] at hW0; cases hW0
  have hW0' : H W0 = none := by rw [upd_ne (Ne.symm nFW)] at hW0; exact hW0
  refine ⟨_, rfl, a, rfl, ⟨_, .of (s0 _ _ h1)⟩, ?_⟩
  refine for_mk hm (fun pre σ H' => ∃ x4 x5, ∃ (n : Nat) (gone : Bool) (em : List Cmd) (l wl : Addr), σ = [some (.ref a), some (.ref l), some (.ref wl), some (.int (n : Nat)), x4, x5] ∧ Same H H' ∧ H l = none ∧ l ≠ wl ∧ H' l = some (.lst (vC em)) ∧ H' wl = some (.lst (vC (delOf n gone))) ∧ n ≤ pre.length ∧ em.length ≤ 2 * pre.length ∧
    ∀ post, p = pre ++ post → Vasedc.cmdsBy 0 [] false p = em ++ Vasedc.cmdsBy n [] gone post) ?_ (fun _ _ _ h => by obtain ⟨_, _, _, _, _, _, _, _, s, _⟩ := h; exact s) ?_ ?_
  · exact ⟨none, none, 0, false, [], F0, W0, rfl, s0, hF0, nFW, by rw [upd_ne nFW, upd_same]; rfl, upd_same, Nat.le_refl _, Nat.zero_le _, fun post e => by rw [e]; rfl⟩
  · rintro pre o post t σ H' e ⟨x4, x5, n, gone, em, l, wl, rfl, s1, hl0, nlw, hl, hwl, hn, he, eq⟩ ht
    have lp := pre_len e
    have eq := eq _ e
    have ho := hL o (by rw [e]; simp)
    have ld : (delOf n gone).length ≤ 1 := by unfold delOf; split <;> simp
    have nxt : ∀ post', p = (pre ++ [o]) ++ post' → post' = post := fun post' e' => by
      rw [e, List.append_assoc] at e'
      have := List.append_cancel_left e'
      simpa using this.symm
    refine ⟨t, _, rfl, .of ht, rfl, _, _, rfl, _, _, rfl, rfl, ?_⟩
    refine ⟨_, rfl, rfl, _, rfl, ?_⟩
    rw [kind_eq2]
    refine if_of (fun c => ?_) (fun c => ?_)
    · obtain ⟨x, rfl⟩ : ∃ x, o = .put x := by cases o <;> first | exact ⟨_, rfl⟩ | cases c
      refine ⟨_, rfl, .inl ⟨rfl, _, .of hl⟩, _, rfl, _, rfl, n, x, rfl, by omega, ho, l, _, _, rfl, rfl, hl, small (by rw [List.length_map]; omega), ?_⟩
      refine ⟨some (.int 2), some (vS x), n, gone, em ++ [putCmd n x], l, wl, rfl, s1.mut hl0, hl0, nlw, ?_, ?_, ?_, ?_, fun post' e' => ?_⟩
      · rw [upd_same]
        simp [vC]
      · rw [upd_ne (Ne.symm nlw)]
        exact hwl
      · rw [List.length_append]; omega
      · rw [List.length_append, List.length_append, List.length_singleton, List.length_singleton]; omega
      · rw [nxt post' e', eq, cmds_put]
        simp
    · refine ⟨_, rfl, _, _, rfl, rfl, ?_⟩
      refine ⟨_, rfl, _, rfl, l, wl, _, _, rfl, rfl, hl, hwl, small' (by rw [List.length_map, List.length_map]; omega), fun r hr' => ?_⟩
      have s2 := s1.new (o := .lst (vC em ++ vC (delOf n gone))) hr'
      refine ⟨_, rfl, rfl, _, rfl, ?_⟩
      have wn := num_len (n + 1)
      rw [kind_eq0]
      refine if_of (fun c2 => ?_) (fun c2 => ?_)
      · obtain ⟨x, rfl⟩ : ∃ x, o = .keep x := by cases o <;> first | exact ⟨_, rfl⟩ | cases c2
        refine ⟨by show 0 ≤ sizeLine; decide, fun q hq => ?_⟩
        have rq : r ≠ q := fun z => by rw [← z, upd_same] at hq; cases hq
        refine ⟨some (.int 0), some (vS x), n + 1, false, em ++ delOf n gone, r, q, rfl, s2.new hq, s1.free hr', rq, ?_, upd_same, ?_, ?_, fun post' e' => ?_⟩
        · rw [upd_ne rq, upd_same]
          simp [vC]
        · rw [List.length_append, List.length_singleton]; omega
        · rw [List.length_append, List.length_append, List.length_singleton]; omega
        · rw [nxt post' e', eq, cmds_keep]
          simp
      · obtain ⟨x, rfl⟩ : ∃ x, o = .drop x := by cases o <;> first | exact ⟨_, rfl⟩ | (cases c; done) | (cases c2; done)
        refine ⟨_, rfl, _, rfl, ?_, ?_⟩
        · have := log2_small (n := n + 1) (by omega)
          exact this
        refine ⟨_, _, rfl, rfl, ?_, _, _, rfl, rfl, ?_, by show 1 ≤ sizeLine; decide, fun q hq => ?_⟩
        · show (sOf (word "if line ")).length + (Str.ofString (toString ((n + 1 : Nat) : Int))).length ≤ _
          rw [sOf_num, sOf_len, sOf_len, w3]
          exact small' (by omega)
        · show (sOf (word "if line ") ++ Str.ofString (toString ((n + 1 : Nat) : Int))).length + (sOf (word " delete ;\n")).length ≤ _
          rw [sOf_num, ← sOf_app, sOf_len, sOf_len, List.length_append, w3, w4]
          exact small' (by omega)
        have rq : r ≠ q := fun z => by rw [← z, upd_same] at hq; cases hq
        refine ⟨some (.int 1), some (vS x), n + 1, true, em ++ delOf n gone, r, q, rfl, s2.new hq, s1.free hr', rq, ?_, ?_, ?_, ?_, fun post' e' => ?_⟩
        · rw [upd_ne rq, upd_same]
          simp [vC]
        · rw [upd_same]
          show some (HO.lst [V.str (sOf (word "if line ") ++ Str.ofString (toString ((n + 1 : Nat) : Int)) ++ sOf (word " delete ;\n"))]) = some (.lst [vS (showCmd ⟨.line (n + 1), .delete⟩)])
          rw [sOf_num, ← sOf_app, ← sOf_app, show_delete]
        · rw [List.length_append, List.length_singleton]; omega
        · rw [List.length_append, List.length_append, List.length_singleton]; omega
        · rw [nxt post' e', eq, cmds_drop]
          simp
  · rintro σ H' ⟨x4, x5, n, gone, em, l, wl, rfl, s1, hl0, nlw, hl, hwl, hn, he, eq⟩
    have eq := eq [] (by simp)
    have ld : (delOf n gone).length ≤ 1 := by unfold delOf; split <;> simp
    refine ⟨_, rfl, _, rfl, l, wl, _, _, rfl, rfl, hl, hwl, small' (by rw [List.length_map, List.length_map]; omega), fun r hr' => k r _ (s1.new hr') ?_⟩
    rw [upd_same, eq, cmds_nil]
    simp [vC]
abbrev s_script_for : Stmt := topS 76
theorem sc_script_for : FnScope ["marks", "ins", "found", "kind", "letters"] ["marks"] (defScope s_script_for) := ⟨rfl, rfl, rfl, by decide +kernel, rfl, by decide +kernel, by decide +kernel⟩
def ScrR (H : Hp) (v : V) : Option (List Cmd) → Prop
  | none => v = .non
  | some s => ∃ r, v = .ref r ∧ H r = some (.lst (vC s))
def spScript : Sp := fun vs H Q _ => ∃ (a : Addr) (p : Patch), vs = [.ref a] ∧ MkAt H a p ∧ p.length ≤ 900 ∧ LnOk p ∧ ∀ v H', Same H H' → ScrR H' v (Vasedc.scriptOf p) → Q v H'
theorem script_eq (p : Patch) : Vasedc.scriptOf p = if ((p.filter Vasedc.isPut).map Vasedc.lineIn).all Vasedc.tellable = false ∨ ((p.filter Vasedc.isPut) ≠ [] ∧ (p.filter Vasedc.isPut).length = p.length) ∨ 16 < (Vasedc.cmdsBy 0 [] false p).length then none else some (Vasedc.cmdsBy 0 [] false p) := by
  have e1 : (p.any (fun o => Vasedc.isPut o && !Vasedc.tellable (Vasedc.lineIn o)) = true) = (((p.filter Vasedc.isPut).map Vasedc.lineIn).all Vasedc.tellable = false) := by
    induction p with
    | nil => simp
    | cons o p ih =>
      rw [List.any_cons, List.filter_cons]
      cases h : Vasedc.isPut o with
      | false => simpa using ih
      | true =>
        simp only [Bool.true_and, if_true, List.map_cons, List.all_cons, Bool.or_eq_true, Bool.and_eq_false_iff, Bool.not_eq_true']
        rw [ih]
  have e2 : (((Vasedc.before_ p).isEmpty && !p.isEmpty) = true) = ((p.filter Vasedc.isPut) ≠ [] ∧ (p.filter Vasedc.isPut).length = p.length) := by
    have e3 : ∀ p : Patch, ((Vasedc.before_ p).isEmpty = true) ↔ (p.filter Vasedc.isPut).length = p.length := by
      intro p
      induction p with
      | nil => simp [Vasedc.before_]
      | cons o p ih =>
        have hf := List.length_filter_le Vasedc.isPut p
        cases o with
        | keep x => simp [Vasedc.before_, List.filter_cons, Vasedc.isPut]; omega
        | drop x => simp [Vasedc.before_, List.filter_cons, Vasedc.isPut]; omega
        | put x =>
          have : Vasedc.before_ (.put x :: p) = Vasedc.before_ p := rfl
          rw [this, ih]
          simp [List.filter_cons, Vasedc.isPut]
    rw [Bool.and_eq_true, e3]
    apply propext
    constructor
    · rintro ⟨a, b⟩
      refine ⟨fun z => ?_, a⟩
      rw [z] at a
      cases p with
      | nil => simp at b
      | cons _ _ => simp at a
    · rintro ⟨a, b⟩
      refine ⟨b, ?_⟩
      cases p with
      | nil => simp at a
      | cons _ _ => rfl
  unfold Vasedc.scriptOf
  simp only [e1, e2]
  rfl
theorem ok_script_for (A : FnAt K mg "script_for" s_script_for ["marks"]) (T : Txt K mg) (D_is_told : Dn P w K mg base CX0 1 "is_told" ["letters"] spTold) (D_commands_for : Dn P w K mg base CX0 2 "commands_for" ["marks"] spCmds) :
    Dn P w K mg base CX0 3 "script_for" ["marks"] spScript := A.dn fun f fd F => by
  refine ok0 F sc_script_for (fun vs H Q E h => ?_) (fun cdv A outer s H vs Q E hr h => ?_)
  · obtain ⟨a, p, rfl, _⟩ := h
    rfl
  obtain ⟨a, p, rfl, hm, hz, hL, k⟩ := h
  obtain ⟨ts0, h1, ht0⟩ := id hm
  refine ⟨_, (pss_cons (ps_setLc (i := 1) (own := [("kind", 3), ("letters", 4)]) (by rfl) sc_script_for.nd rfl rfl (sw_true rfl rfl rfl (by decide +kernel)) (pi_list (pv 0)) (blkOk_by (own := [("kind", 3), ("letters", 4)]) (N := ["marks", "ins", "found", "kind", "letters"]) (sc := defScope s_script_for) (by decide +kernel)) (fun _ _ _ _ _ => by exact (pg_tupK K 2 rfl (by rfl) (pgs_cons (pg_name (i := 3) sc_script_for.nd rfl (Or.inl rfl)) (pgs_cons (pg_name (i := 4) sc_script_for.nd rfl (Or.inl rfl)) pgs_nil)))) (fun _ _ _ _ _ => by exact (pts_one (pt_cmpR op_eq (pv 3) (pe_gint T.g_IN) (nomark _)))) (fun _ _ _ _ _ => by exact (pv 4)))
      (pss_cons (ps_if (PW.pt (pw_or (pt_not (pt_val (pe_callB (cr_all rfl) (by rfl) T.f_all (by decide +kernel) (pa_cons (by exact (pe_lc (own := [("letters", 4)]) (by rfl) sc_script_for.nd (pi_list (pv 1)) (blkOk_by (own := [("letters", 4)]) (N := ["marks", "ins", "found", "kind", "letters"]) (sc := defScope s_script_for) (by decide +kernel)) (fun _ _ _ _ _ => by exact (pg_name (i := 4) sc_script_for.nd rfl (Or.inl rfl))) (fun _ _ _ _ _ => pts_nil) (fun _ _ _ _ _ => by exact (pe_f D_is_told (hr.mono (by decide)) pass0 (pa_cons (pv 4) pa_nil))))) pa_nil)))) (pw_or1 (PW.pt (pw_and (pt_cmpR (op_neD hr.units) (pv 1) (pe_lst pa_nil) (nomark _)) (pw_and1 (pt_cmpR op_eq (pe_callB call_len (by rfl) T.f_len PySem.boot_len (pa_cons (pv 1) pa_nil)) (pe_callB call_len (by rfl) T.f_len PySem.boot_len (pa_cons (pv 0) pa_nil)) (nomark _))))))))
      (pss_one (ps_ret pe_non))
      pss_nil)
      (pss_cons (ps_set (i := 2) sc_script_for.nd rfl (Or.inl rfl) (pe_f D_commands_for (hr.mono (by decide)) pass0 (pa_cons (pv 0) pa_nil)))
      (pss_one (ps_ret (pe_ifExp (pt_cmpR op_le (pe_callB call_len (by rfl) T.f_len PySem.boot_len (pa_cons (pv 2) pa_nil)) (pe_gint T.g_MOST_COMMANDS) (nomark _)) (pv 2) pe_non)))))), ?_⟩
  rw [script_eq] at k
  refine ⟨_, rfl, a, rfl, ⟨_, .of h1⟩, fun D1 hD1 => lc_sel Vasedc.isPut (fun o => vS (Vasedc.lineIn o)) hm (by omega) hD1 (fun _ _ => rfl) ?_ (fun o H' Q' _ h => ⟨_, rfl, h⟩) fun H1 s1 l1 => ?_⟩
  · intro o H' Q' h
    refine ⟨_, rfl, rfl, _, rfl, ?_⟩
    rw [kind_eq2]
    exact h
  obtain ⟨ins, hins⟩ : ∃ ins, ins = (p.filter Vasedc.isPut).map Vasedc.lineIn := ⟨_, rfl⟩
  have l1 : H1 D1 = some (.lst (vT ins)) := by
    rw [l1, hins, vT, List.map_map]
    rfl
  have eL : ins.length = (p.filter Vasedc.isPut).length := by rw [hins, List.length_map]
  have hf := List.length_filter_le Vasedc.isPut p
  have hi : ∀ x ∈ ins, x.length ≤ 1000 := fun x hx => by
    rw [hins] at hx
    obtain ⟨o, ho, rfl⟩ := List.mem_map.mp hx
    exact hL o (List.mem_filter.mp ho).1
  rw [← hins] at k
  have lts := Paired.length ht0
  -- all told
  refine ⟨_, rfl, D1, rfl, ⟨_, .of l1⟩, fun D2 hD2 => lc_map vS (fun pre H' => Same H1 H' ∧ H' D2 = some (.lst (pre.map fun x => V.bl (Vasedc.tellable x)))) ⟨(Same.refl H1).new hD2, upd_same⟩ (fun pre H' h => .of (h.1 _ _ l1)) ?_ ?_⟩
  · rintro pre x post H' ee ⟨s3, hl2⟩
    have lp := pre_len ee
    refine ⟨rfl, yes ⟨_, rfl, x, rfl, hi x (by rw [ee]; simp), _, hl2, small (by rw [List.length_map]; omega), s3.mut hD2, ?_⟩⟩
    rw [upd_same, List.map_append]
    rfl
  rintro H2 ⟨s2, hl2⟩
  have hl2 : H2 D2 = some (.lst ((ins.map Vasedc.tellable).map V.bl)) := by
    rw [hl2, List.map_map]
    rfl
  have s12 := s1.trans s2
  refine ⟨D2, _, rfl, .of hl2, _, rfl, ?_⟩
  have ea : (ins.map Vasedc.tellable).all id = ins.all Vasedc.tellable := by rw [List.all_map]; rfl
  rw [ea]
  refine if_of (fun c => ?_) (fun c => ?_)
  · have c : ins.all Vasedc.tellable = false := by simpa using c
    refine if_yes rfl (k _ H2 s12 ?_)
    rw [if_pos (.inl c)]
    exact rfl
  have c : ins.all Vasedc.tellable = true := by simpa using c
  refine ⟨_, rfl, by show 0 ≤ sizeLine; decide, fun e he => ?_⟩
  have s3 := s12.new (o := .lst []) he
  have eD : D1 ≠ e := fun z => by rw [z] at l1; rw [s2 _ _ l1] at he; cases he
  refine ⟨_, _, .lst (.of (by rw [upd_ne eD]; exact s2 _ _ l1)) (dpT K _ ins), .lst (.of upd_same) .nil, shT _, shT [], _, rfl, ?_⟩
  have en : (!PyData.eqv (.list (ins.map fun x => PyData.str (sOf x))) (.list [])) = !decide (ins = []) := by
    have := eqvT ins []
    show (!PyData.eqvAll _ _) = _
    rw [show (PyData.eqvAll (ins.map fun x => PyData.str (sOf x)) []) = decide (ins = []) from this]
  rw [en]
  have l13 : upd H2 e (.lst []) D1 = some (.lst (vT ins)) := by rw [upd_ne eD]; exact s2 _ _ l1
  refine if_of (fun c2 => ?_) (fun c2 => ?_)
  · have c2 : ¬ ins = [] := by simpa using c2
    refine ⟨_, rfl, _, _, rfl, .inl ⟨_, .of l13, rfl⟩, _, rfl, _, _, rfl, .inl ⟨_, .of (s3 _ _ h1), rfl⟩, rfl, _, rfl, ?_⟩
    rw [vT_len, List.length_map]
    refine if_of (fun c3 => ?_) (fun c3 => ?_)
    · have c3 : V.int ((ins.length : Nat) : Int) = V.int ((ts0.length : Nat) : Int) := of_decide_eq_true c3
      have c3 : ins.length = ts0.length := by injection c3; omega
      refine k _ _ s3 ?_
      rw [if_pos (.inr (.inl ⟨fun z => c2 (by rw [hins, z]; rfl), by omega⟩))]
      exact rfl
    · have c3 : ¬ V.int ((ins.length : Nat) : Int) = V.int ((ts0.length : Nat) : Int) := of_decide_eq_false c3
      have c3 : ins.length ≠ ts0.length := fun z => c3 (by rw [z])
      refine ⟨_, rfl, a, p, rfl, hm.mono s3, hz, hL, fun r H4 s4 hr4 => ?_⟩
      refine ⟨_, rfl, _, _, rfl, .inl ⟨_, .of hr4, rfl⟩, _, _, rfl, rfl, _, rfl, ?_⟩
      rw [List.length_map]
      refine if_of (fun c5 => ?_) (fun c5 => ?_)
      · have c5 := of_decide_eq_true c5
        refine ⟨_, rfl, k _ H4 (s3.trans s4) ?_⟩
        rw [if_neg (by rintro (z | ⟨_, z⟩ | z) <;> first | (rw [c] at z; cases z; done) | exact c3 (by omega) | omega)]
        exact ⟨r, rfl, hr4⟩
      · have c5 := of_decide_eq_false c5
        refine k _ H4 (s3.trans s4) ?_
        rw [if_pos (by right; right; omega)]
        exact rfl
  · have c2 : ins = [] := by simpa using c2
    refine ⟨_, rfl, a, p, rfl, hm.mono s3, hz, hL, fun r H4 s4 hr4 => ?_⟩
    refine ⟨_, rfl, _, _, rfl, .inl ⟨_, .of hr4, rfl⟩, _, _, rfl, rfl, _, rfl, ?_⟩
    rw [List.length_map]
    refine if_of (fun c5 => ?_) (fun c5 => ?_)
    · have c5 := of_decide_eq_true c5
      refine ⟨_, rfl, k _ H4 (s3.trans s4) ?_⟩
      rw [if_neg (by rintro (z | ⟨z, _⟩ | z) <;> first | (rw [c] at z; cases z; done) | exact z (by rw [hins] at c2; simpa using c2) | omega)]
      exact ⟨r, rfl, hr4⟩
    · have c5 := of_decide_eq_false c5
      refine k _ H4 (s3.trans s4) ?_
      rw [if_pos (by right; right; omega)]
      exact rfl
end
end Lp
end
section
set_option maxHeartbeats 4000000
/-! ### patches told -/
namespace Lp
open PySem PySem.Spec PyProof.Rows L2
open PySem.W (Frag)
open VasedBase (Bytes word showNat)
open Vaseda (Line Text Cmd showCmd)
open Vasedc (Op Patch Hunk)
/-- whole numbers as values; an answer's -/
abbrev vI (l : List Int) : List V := l.map V.int
def ansL (a : VasedBase.Answer) : List Int := a.value :: a.rest
theorem join_texts : ∀ ls : List Bytes, Txt.join (Str.ofString "") (ls.map sOf) = sOf ls.flatten := by
  have h : ∀ ls : List Bytes, Str.join (Str.ofString "") (ls.map sOf) = sOf ls.flatten := by
    intro ls
    induction ls with
    | nil => rfl
    | cons x ls ih =>
      cases ls with
      | nil =>
        show sOf x = sOf (x ++ [])
        rw [List.append_nil]
      | cons y r =>
        show sOf x ++ Str.ofString "" ++ Str.join (Str.ofString "") ((y :: r).map sOf) = _
        have e0 : sOf x ++ Str.ofString "" = sOf x := str_ext (by show ((sOf x).cps ++ #[]).toList = (sOf x).cps.toList; simp)
        rw [e0, ih, ← sOf_app]
        rfl
  intro ls
  rw [TL.join_eq]
  exact h ls
theorem sum_len : ∀ ls : List Bytes, ((ls.map sOf).map (·.length)).sum = ls.flatten.length
  | [] => rfl
  | x :: ls => by
    rw [List.map_cons, List.map_cons, List.sum_cons, sum_len ls, List.flatten_cons, List.length_append, sOf_len]
section
variable {P : Program} {w : World} {K : Frag} {mg : Str → Option Value} {base : Heap}
abbrev s_bytes_of : Stmt := topS 96
theorem sc_bytes_of : FnScope ["text", "sign"] ["text"] (defScope s_bytes_of) := ⟨rfl, rfl, rfl, by decide +kernel, rfl, by decide +kernel, by decide +kernel⟩
def spBytes : Sp := fun vs H Q _ => ∃ x : Bytes, vs = [vS x] ∧ x.length ≤ 1000000 ∧ ∀ r H', Same H H' → H' r = some (.lst (vB x)) → Q (.ref r) H'
theorem ok_bytes_of (A : FnAt K mg "bytes_of" s_bytes_of ["text"]) (T : Txt K mg) : Dn P w K mg base CX0 1 "bytes_of" ["text"] spBytes := A.dn fun f fd F => by
  refine ok0 F sc_bytes_of (fun vs H Q E h => ?_) (fun cdv A outer s H vs Q E hr h => ?_)
  · obtain ⟨x, rfl, _⟩ := h
    rfl
  obtain ⟨x, rfl, hx, k⟩ := h
  refine ⟨_, (pss_one (ps_ret (by exact (pe_lc (own := [("sign", 1)]) (by rfl) sc_bytes_of.nd (pi_str (pv 0)) (blkOk_by (own := [("sign", 1)]) (N := ["text", "sign"]) (sc := defScope s_bytes_of) (by decide +kernel)) (fun _ _ _ _ _ => by exact (pg_name (i := 1) sc_bytes_of.nd rfl (Or.inl rfl))) (fun _ _ _ _ _ => pts_nil) (fun _ _ _ _ _ => by exact (pe_callB call_ord (by rfl) T.f_ord (by decide +kernel) (pa_cons (pv 1) pa_nil))))))), ?_⟩
  have hsz : (sOf x).cps.size = x.length := sOf_len x
  refine ⟨_, rfl, _, rfl, fun D hD => lc_it walk_str (fun i H' => Same H H' ∧ H' D = some (.lst (vB (x.take i)))) ⟨(Same.refl H).new hD, upd_same⟩ (fun _ _ _ _ => trivial) ?_ ?_⟩
  · rintro i v H' H'' hi ⟨s1, hl⟩ ⟨rfl, c, hc, rfl⟩
    have hi' : i < x.length := by omega
    have ec : c = (x[i]).toNat := by
      have e : (sOf x).cps[i]? = some (x[i]).toNat := by
        show (x.map UInt8.toNat).toArray[i]? = _
        rw [List.getElem?_toArray, List.getElem?_map, List.getElem?_eq_getElem hi']
        rfl
      rw [e] at hc
      exact (Option.some.inj hc).symm
    refine ⟨rfl, yes ⟨_, rfl, _, rfl, rfl, _, hl, small (by rw [List.length_map, List.length_take]; omega), s1.mut hD, ?_⟩⟩
    rw [upd_same, take_snoc (List.getElem?_eq_getElem hi'), ec]
    show some (HO.lst _) = some (HO.lst ((x.take i ++ [x[i]]).map _))
    rw [List.map_append]
    rfl
  · rintro H' ⟨s1, hl⟩
    rw [hsz, List.take_length] at hl
    exact k D H' s1 hl
abbrev s_patch_told : Stmt := topS 98
theorem sc_patch_told : FnScope ["marks", "found", "kind", "letters"] ["marks"] (defScope s_patch_told) := ⟨rfl, rfl, rfl, by decide +kernel, rfl, by decide +kernel, by decide +kernel⟩
/-- an answer in a list that's new -/
def spPTold : Sp := fun vs H Q _ => ∃ (a : Addr) (p : Patch), vs = [.ref a] ∧ MkAt H a p ∧ p.length ≤ 900 ∧ LnOk p ∧ ∀ r H', Same H H' → H r = none → H' r = some (.lst (vI (ansL (Vasedc.patchAnswer p)))) → Q (.ref r) H'
theorem opRow_len (p : Patch) (h : LnOk p) : (p.flatMap Vasedc.opRow).length ≤ p.length * 1002 := by
  induction p with
  | nil => simp
  | cons o p ih =>
    have := ih (fun o ho => h o (List.mem_cons_of_mem _ ho))
    have h0 := h o (List.mem_cons_self)
    rw [List.flatMap_cons, List.length_append, List.length_cons]
    have e : (Vasedc.opRow o).length ≤ 1002 := by
      cases o with
      | keep x => show 1 ≤ 1002; omega
      | drop x => show 1 ≤ 1002; omega
      | put x =>
        have h0 : x.length ≤ 1000 := h0
        show (x.map _).length + 1 + 1 ≤ 1002
        rw [List.length_map]
        omega
    omega
theorem cost_keep (p : Patch) : Vasedc.costOf p + (p.filter Vasedc.isKeep).length = p.length := by
  unfold Vasedc.costOf
  induction p with
  | nil => rfl
  | cons o p ih =>
    rw [List.filter_cons, List.filter_cons]
    cases h : Vasedc.isKeep o with
    | true => simp; omega
    | false => simp; omega
theorem ok_patch_told (A : FnAt K mg "patch_told" s_patch_told ["marks"]) (T : Txt K mg) (D_cost_of : Dn P w K mg base CX0 1 "cost_of" ["marks"] spCost) (D_bytes_of : Dn P w K mg base CX0 1 "bytes_of" ["text"] spBytes) :
    Dn P w K mg base CX0 2 "patch_told" ["marks"] spPTold := A.dn fun f fd F => by
  refine ok0 F sc_patch_told (fun vs H Q E h => ?_) (fun cdv A outer s H vs Q E hr h => ?_)
  · obtain ⟨a, p, rfl, _⟩ := h
    rfl
  obtain ⟨a, p, rfl, hm, hz, hL, k⟩ := h
  obtain ⟨ts0, h1, ht0⟩ := id hm
  have lts := Paired.length ht0
  refine ⟨_, (pss_cons (ps_set (i := 1) sc_patch_told.nd rfl (Or.inl rfl) (pe_lst (pa_cons (pe_f D_cost_of (hr.mono (by decide)) pass0 (pa_cons (pv 0) pa_nil)) (pa_cons (pe_callB call_len (by rfl) T.f_len PySem.boot_len (pa_cons (pv 0) pa_nil)) (pa_cons (pe_op op_sub (pe_callB call_len (by rfl) T.f_len PySem.boot_len (pa_cons (pv 0) pa_nil)) (pe_f D_cost_of (hr.mono (by decide)) pass0 (pa_cons (pv 0) pa_nil))) pa_nil)))))
      (pss_cons (ps_for PassesOwn.never rfl (pi_list (pv 0)) (pg_tup (by rfl) (pgs_cons (pg_name (i := 2) sc_patch_told.nd rfl (Or.inl rfl)) (pgs_cons (pg_name (i := 3) sc_patch_told.nd rfl (Or.inl rfl)) pgs_nil)))
      (pss_cons (ps_expr (pe_bm PySem.F.plainAttrs_list PySem.F.slot_list_append PySem.F.type_list_append mt_append (pv 1) (pa_cons (pv 2) pa_nil)))
      (pss_one (ps_if (pt_cmpR op_eq (pv 2) (pe_gint T.g_IN) (nomark _))
      (pss_cons (ps_expr (pe_bm PySem.F.plainAttrs_list PySem.F.slot_list_append PySem.F.type_list_append mt_append (pv 1) (pa_cons (pe_callB call_len (by rfl) T.f_len PySem.boot_len (pa_cons (pv 3) pa_nil)) pa_nil)))
      (pss_one (ps_expr (pe_bm PySem.F.plainAttrs_list PySem.F.slot_list_extend PySem.F.type_list_extend mt_extend (pv 1) (pa_cons (pe_f D_bytes_of (hr.mono (by decide)) pass0 (pa_cons (pv 3) pa_nil)) pa_nil)))))
      pss_nil))))
      (pss_one (ps_ret (pv 1))))), ?_⟩
  refine ⟨_, rfl, a, p, rfl, hm, by omega, fun H1 s1 => ⟨_, rfl, _, _, rfl, .inl ⟨_, .of (s1 _ _ h1), rfl⟩, _, rfl, _, _, rfl, .inl ⟨_, .of (s1 _ _ h1), rfl⟩, _, rfl, a, p, rfl, hm.mono s1, by omega, fun H2 s2 => ⟨_, _, rfl, rfl, by show 3 ≤ sizeLine; decide, fun F0 hF0 => ?_⟩⟩⟩
  have s12 := s1.trans s2
  have hF00 : H F0 = none := s12.free hF0
  have s3 := s12.new (o := .lst [V.int (Vasedc.costOf p : Nat), V.int ((ts0.map V.ref).length : Nat), V.int (((ts0.map V.ref).length : Nat) - (Vasedc.costOf p : Nat) : Int)]) hF0
  refine ⟨_, rfl, a, rfl, ⟨_, .of (s3 _ _ h1)⟩, ?_⟩
  have hc := cost_keep p
  refine for_mk hm (fun pre σ H' => ∃ x2 x3, σ = [some (.ref a), some (.ref F0), x2, x3] ∧ Same H H' ∧ H' F0 = some (.lst (vI ((Vasedc.costOf p : Int) :: (p.length : Int) :: ((p.filter Vasedc.isKeep).length : Int) :: pre.flatMap Vasedc.opRow)))) ?_ (fun _ _ _ h => by obtain ⟨_, _, _, s, _⟩ := h; exact s) ?_ ?_
  · refine ⟨none, none, rfl, s3, ?_⟩
    rw [upd_same, List.length_map, ← lts]
    show some (HO.lst [V.int _, V.int _, V.int _]) = some (.lst [V.int _, V.int _, V.int _])
    rw [show ((p.length : Nat) : Int) - (Vasedc.costOf p : Nat) = ((p.filter Vasedc.isKeep).length : Int) from by omega]
  · rintro pre o post t σ H' e ⟨x2, x3, rfl, s4, hl⟩ ht
    have lp := pre_len e
    have hLp : LnOk pre := fun o ho => hL o (by rw [e]; exact List.mem_append_left _ ho)
    have ho := hL o (by rw [e]; simp)
    have lr := opRow_len pre hLp
    have lv : (vI ((Vasedc.costOf p : Int) :: (p.length : Int) :: ((p.filter Vasedc.isKeep).length : Int) :: pre.flatMap Vasedc.opRow)).length ≤ 902000 := by
      rw [List.length_map]
      show (pre.flatMap Vasedc.opRow).length + 1 + 1 + 1 ≤ _
      omega
    refine ⟨t, _, rfl, .of ht, rfl, _, _, rfl, _, _, rfl, rfl, ?_⟩
    refine ⟨_, rfl, .inl ⟨rfl, _, .of hl⟩, _, rfl, F0, _, _, rfl, rfl, hl, small (by omega), ?_⟩
    refine ⟨_, rfl, rfl, _, rfl, ?_⟩
    rw [kind_eq2]
    refine if_of (fun c => ?_) (fun c => ?_)
    · obtain ⟨x, rfl⟩ : ∃ x, o = .put x := by cases o <;> first | exact ⟨_, rfl⟩ | (cases c; done)
      have ho : x.length ≤ 1000 := ho
      refine ⟨_, rfl, .inl ⟨rfl, _, .of upd_same⟩, _, rfl, _, x.length, rfl, ⟨by show (sOf x).length ≤ _; rw [sOf_len]; exact small' (by omega), (sOf_len x).symm⟩, F0, _, _, rfl, rfl, upd_same, small (by rw [List.length_append, List.length_singleton]; omega), ?_⟩
      refine ⟨_, rfl, .inl ⟨rfl, _, .of upd_same⟩, _, rfl, x, rfl, by omega, fun b H5 s5 hb => ?_⟩
      have hF5 := s5 _ _ upd_same
      refine ⟨F0, b, _, _, rfl, rfl, hF5, hb, small' (by rw [List.length_append, List.length_append, List.length_map (f := fun c : UInt8 => V.int (c.toNat : Int)), List.length_singleton, List.length_singleton]; omega), ?_⟩
      refine ⟨some (.int 2), some (vS x), rfl, ?_, ?_⟩
      · exact (((s4.mut hF00).mut hF00).trans s5).mut hF00
      · rw [upd_same, List.flatMap_append]
        simp [vI, Vasedc.opRow, VasedBase.textRow, kOf]
    · refine ⟨some (.int (kOf o)), some (vS (Vasedc.lineIn o)), rfl, s4.mut hF00, ?_⟩
      rw [upd_same, List.flatMap_append]
      cases o with
      | put x => cases c
      | keep x => simp [vI, Vasedc.opRow, kOf]
      | drop x => simp [vI, Vasedc.opRow, kOf]
  · rintro σ H' ⟨x2, x3, rfl, s4, hl⟩
    exact ⟨_, rfl, k F0 H' s4 hF00 hl⟩
abbrev s_text_told : Stmt := topS 100
theorem sc_text_told : FnScope ["lines", "data", "line"] ["lines"] (defScope s_text_told) := ⟨rfl, rfl, rfl, by decide +kernel, rfl, by decide +kernel, by decide +kernel⟩
/-- a text as it's told -/
def txtL (t : Text) : List Int := (t.length : Int) :: Vasedc.rowText t
def TxOk (t : Text) : Prop := t.length ≤ 3000 ∧ ∀ x ∈ t, x.length ≤ 300
theorem flat_len : ∀ t : Text, (∀ x ∈ t, x.length ≤ 300) → (t.map fun x => x ++ [(10 : UInt8)]).flatten.length ≤ t.length * 301
  | [], _ => by simp
  | x :: t, h => by
    have := flat_len t (fun x hx => h x (List.mem_cons_of_mem _ hx))
    have h0 := h x (List.mem_cons_self)
    rw [List.map_cons, List.flatten_cons, List.length_append, List.length_append, List.length_singleton, List.length_cons]
    omega
def spTTold : Sp := fun vs H Q _ => ∃ (a : Addr) (t : Text), vs = [.ref a] ∧ H a = some (.lst (vT t)) ∧ TxOk t ∧ ∀ r H', Same H H' → H' r = some (.lst (vI (txtL t))) → Q (.ref r) H'
theorem ok_text_told (A : FnAt K mg "text_told" s_text_told ["lines"]) (T : Txt K mg) (D_bytes_of : Dn P w K mg base CX0 1 "bytes_of" ["text"] spBytes) : Dn P w K mg base CX0 2 "text_told" ["lines"] spTTold := A.dn fun f fd F => by
  refine ok0 F sc_text_told (fun vs H Q E h => ?_) (fun cdv A outer s H vs Q E hr h => ?_)
  · obtain ⟨a, t, rfl, _⟩ := h
    rfl
  obtain ⟨a, t, rfl, ha, ⟨tz, tl⟩, k⟩ := h
  refine ⟨_, (pss_cons (ps_set (i := 1) sc_text_told.nd rfl (Or.inl rfl) (pe_f D_bytes_of (hr.mono (by decide)) pass0 (pa_cons (pe_join pe_str (by exact (pe_lc (own := [("line", 2)]) (by rfl) sc_text_told.nd (pi_list (pv 0)) (blkOk_by (own := [("line", 2)]) (N := ["lines", "data", "line"]) (sc := defScope s_text_told) (by decide +kernel)) (fun _ _ _ _ _ => by exact (pg_name (i := 2) sc_text_told.nd rfl (Or.inl rfl))) (fun _ _ _ _ _ => pts_nil) (fun _ _ _ _ _ => by exact (pe_op op_add_str (pv 2) pe_str))))) pa_nil)))
      (pss_one (ps_ret (pe_op op_cat (pe_lst (pa_cons (pe_callB call_len (by rfl) T.f_len PySem.boot_len (pa_cons (pv 0) pa_nil)) (pa_cons (pe_callB call_len (by rfl) T.f_len PySem.boot_len (pa_cons (pv 1) pa_nil)) pa_nil))) (pv 1))))), ?_⟩
  have l1 : (Str.ofString "\n") = sOf [10] := by decide +kernel
  rw [l1]
  refine ⟨⟨_, rfl⟩, _, rfl, a, rfl, ⟨_, .of ha⟩, fun D hD => lc_map vS (fun pre H' => Same H H' ∧ H' D = some (.lst ((pre.map fun x => sOf (x ++ [10])).map V.str))) ⟨(Same.refl H).new hD, upd_same⟩ (fun pre H' h => .of (h.1 _ _ ha)) ?_ ?_⟩
  · rintro pre x post H' e ⟨s1, hl⟩
    have lp := pre_len e
    have hx := tl x (by rw [e]; simp)
    refine ⟨rfl, yes ⟨_, rfl, _, _, rfl, rfl, by rw [sOf_len, sOf_len]; exact small' (by show x.length + 1 ≤ _; omega), _, hl, small (by rw [List.length_map, List.length_map]; omega), s1.mut hD, ?_⟩⟩
    rw [upd_same, ← sOf_app, List.map_append, List.map_append]
    rfl
  · rintro H1 ⟨s1, hl⟩
    have hfl := flat_len t tl
    have em : (t.map fun x => sOf (x ++ [10])) = (t.map fun x => x ++ [10]).map sOf := by rw [List.map_map]; rfl
    rw [em] at hl
    refine ⟨_, D, _, rfl, rfl, .inl (.of hl), ?_, ?_⟩
    · rw [sum_len]
      show _ + _ * 0 ≤ _
      omega
    rw [join_texts]
    refine ⟨_, rfl, by omega, fun r H2 s2 hr2 => ?_⟩
    have s12 := s1.trans s2
    refine ⟨_, rfl, _, t.length, rfl, .inl ⟨_, .of (s12 _ _ ha), vT_len.symm⟩, _, rfl, _, _, rfl, .inl ⟨_, .of hr2, rfl⟩, by show 2 ≤ sizeLine; decide, fun q hq => ?_⟩
    have rq : r ≠ q := fun z => by rw [z, hq] at hr2; cases hr2
    refine ⟨_, rfl, q, r, _, _, rfl, rfl, upd_same, by rw [upd_ne rq]; exact hr2, small' (by rw [List.length_map]; show 2 + _ ≤ _; omega), fun z hz => k z _ ((s12.new hq).new hz) ?_⟩
    rw [upd_same]
    have et : (t.map fun x => x ++ [(10 : UInt8)]).flatten = Vaseda.showText t := by
      unfold Vaseda.showText
      rw [List.flatMap_def]
    rw [et, List.length_map]
    show some (HO.lst _) = some (.lst (V.int (t.length : Int) :: V.int ((Vaseda.showText t).length : Int) :: ((Vaseda.showText t).map fun c => (c.toNat : Int)).map V.int))
    rw [List.map_map]
    rfl
abbrev s_both : Stmt := topS 103
theorem sc_both : FnScope ["one", "other", "third", "first", "second"] ["one", "other", "third"] (defScope s_both) := ⟨rfl, rfl, rfl, by decide +kernel, rfl, by decide +kernel, by decide +kernel⟩
def spBoth : Sp := fun vs H Q _ => ∃ (a b c : Addr) (t u v : Text), vs = [.ref a, .ref b, .ref c] ∧ H a = some (.lst (vT t)) ∧ H b = some (.lst (vT u)) ∧ H c = some (.lst (vT v)) ∧ t.length ≤ 100 ∧ u.length ≤ 100 ∧ v.length ≤ 100 ∧
  ∀ r H', Same H H' → H' r = some (.lst (vI [(Vasedc.costOf (Vasedc.both (Vasedc.patch t u) (Vasedc.patch u v)) : Int), (Vasedc.costOf (Vasedc.patch t u) : Int), (Vasedc.costOf (Vasedc.patch u v) : Int), (Vasedc.costOf (Vasedc.patch t v) : Int)])) → H r = none → Q (.ref r) H'
theorem ok_both (A : FnAt K mg "both" s_both ["one", "other", "third"]) (T : Txt K mg) (D_least_patch : Dn P w K mg base CX0 2 "least_patch" ["one", "other"] spLeast) (D_cost_behind : Dn P w K mg base CX0 1 "cost_behind" ["first", "second"] spBehind)
    (D_cost_of : Dn P w K mg base CX0 1 "cost_of" ["marks"] spCost) : Dn P w K mg base CX0 3 "both" ["one", "other", "third"] spBoth := A.dn fun f fd F => by
  refine ok0 F sc_both (fun vs H Q E h => ?_) (fun cdv A outer s H vs Q E hr h => ?_)
  · obtain ⟨a, b, c, t, u, v, rfl, _⟩ := h
    rfl
  obtain ⟨a, b, c, t, u, v, rfl, ha, hb, hc, zt, zu, zv, k⟩ := h
  have l1 := patch_len t u
  have l2 := patch_len u v
  have l3 := patch_len t v
  refine ⟨_, (pss_cons (ps_par (i := 3) (j := 4) (by rfl) sc_both.nd rfl rfl (by decide) rfl rfl (pa_cons (pe_f D_least_patch (hr.mono (by decide)) pass0 (pa_cons (pv 0) (pa_cons (pv 1) pa_nil))) (pa_cons (pe_f D_least_patch (hr.mono (by decide)) pass0 (pa_cons (pv 1) (pa_cons (pv 2) pa_nil))) pa_nil)) (by rfl))
      (pss_one (ps_ret (pe_lst (pa_cons (pe_f D_cost_behind (hr.mono (by decide)) pass0 (pa_cons (pv 3) (pa_cons (pv 4) pa_nil))) (pa_cons (pe_f D_cost_of (hr.mono (by decide)) pass0 (pa_cons (pv 3) pa_nil)) (pa_cons (pe_f D_cost_of (hr.mono (by decide)) pass0 (pa_cons (pv 4) pa_nil)) (pa_cons (pe_f D_cost_of (hr.mono (by decide)) pass0 (pa_cons (pe_f D_least_patch (hr.mono (by decide)) pass0 (pa_cons (pv 0) (pa_cons (pv 2) pa_nil))) pa_nil)) pa_nil)))))))), ?_⟩
  refine ⟨_, rfl, _, rfl, a, b, t, u, rfl, ha, hb, zt, zu, fun p1 H1 s1 m1 => ⟨_, rfl, _, rfl, b, c, u, v, rfl, s1 _ _ hb, s1 _ _ hc, zu, zv, fun p2 H2 s2 m2 => ?_⟩⟩
  have m1' := m1.mono s2
  refine ⟨_, _, rfl, ?_⟩
  refine ⟨_, rfl, _, rfl, p1, p2, _, _, rfl, m1', m2, by omega, by omega, by rw [patch_nA, patch_nB], fun H3 s3 => ?_⟩
  refine ⟨_, rfl, p1, _, rfl, m1'.mono s3, by omega, fun H4 s4 => ⟨_, rfl, p2, _, rfl, m2.mono (s3.trans s4), by omega, fun H5 s5 => ?_⟩⟩
  have s05 := (s1.trans s2).trans ((s3.trans s4).trans s5)
  refine ⟨_, rfl, _, rfl, a, c, t, v, rfl, s05 _ _ ha, s05 _ _ hc, zt, zv, fun p3 H6 s6 m3 => ⟨p3, _, rfl, m3, by omega, fun H7 s7 => ⟨by show 4 ≤ sizeLine; decide, fun r hr' => k r _ (((s05.trans s6).trans s7).new hr') ?_ (((s05.trans s6).trans s7).free hr')⟩⟩⟩
  rw [upd_same, cost_both _ _ (by rw [patch_nA, patch_nB])]
  rfl
abbrev s_drift : Stmt := topS 102
theorem sc_drift : FnScope ["one", "other", "third", "lines", "number"] ["one", "other", "third"] (defScope s_drift) := ⟨rfl, rfl, rfl, by decide +kernel, rfl, by decide +kernel, by decide +kernel⟩
def driftL (t u v : Text) : List Int := match Vasedc.drift (Vasedc.patch t u) v with
  | .ok w => 1 :: txtL w
  | .error k => [0, (k : Int)]
def spDrift : Sp := fun vs H Q _ => ∃ (a b c : Addr) (t u v : Text), vs = [.ref a, .ref b, .ref c] ∧ H a = some (.lst (vT t)) ∧ H b = some (.lst (vT u)) ∧ H c = some (.lst (vT v)) ∧ t.length ≤ 100 ∧ u.length ≤ 100 ∧ v.length ≤ 100 ∧
  (∀ w, Vasedc.drift (Vasedc.patch t u) v = .ok w → TxOk w) ∧ ∀ r H', Same H H' → H' r = some (.lst (vI (driftL t u v))) → H r = none → Q (.ref r) H'
theorem ok_drift (A : FnAt K mg "drift" s_drift ["one", "other", "third"]) (T : Txt K mg) (D_least_patch : Dn P w K mg base CX0 2 "least_patch" ["one", "other"] spLeast) (D_changes_of : Dn P w K mg base CX0 3 "changes_of" ["marks"] (spChanges K))
    (D_put_to : Dn P w K mg base CX0 3 "put_to" ["changes", "lines"] (spPut K)) (D_text_told : Dn P w K mg base CX0 2 "text_told" ["lines"] spTTold) : Dn P w K mg base CX0 4 "drift" ["one", "other", "third"] spDrift := A.dn fun f fd F => by
  refine ok0 F sc_drift (fun vs H Q E h => ?_) (fun cdv A outer s H vs Q E hr h => ?_)
  · obtain ⟨a, b, c, t, u, v, rfl, _⟩ := h
    rfl
  obtain ⟨a, b, c, t, u, v, rfl, ha, hb, hc, zt, zu, zv, ho, k⟩ := h
  have l1 := patch_len t u
  refine ⟨_, (pss_cons (ps_asg (pe_f D_put_to (hr.mono (by decide)) pass0 (pa_cons (pe_f D_changes_of (hr.mono (by decide)) pass0 (pa_cons (pe_f D_least_patch (hr.mono (by decide)) pass0 (pa_cons (pv 0) (pa_cons (pv 1) pa_nil))) pa_nil)) (pa_cons (pv 2) pa_nil))) (pg_tup (by rfl) (pgs_cons (pg_name (i := 3) sc_drift.nd rfl (Or.inl rfl)) (pgs_cons (pg_name (i := 4) sc_drift.nd rfl (Or.inl rfl)) pgs_nil))))
      (pss_one (ps_ret (pe_ifExp (pt_cmpR op_isN (pv 3) pe_non (nomark _)) (pe_lst (pa_cons pe_int (pa_cons (pv 4) pa_nil))) (pe_op op_cat (pe_lst (pa_cons pe_int pa_nil)) (pe_f D_text_told (hr.mono (by decide)) pass0 (pa_cons (pv 3) pa_nil))))))), ?_⟩
  refine ⟨_, rfl, _, rfl, a, b, t, u, rfl, ha, hb, zt, zu, fun p1 H1 s1 m1 => ⟨p1, _, rfl, m1, by omega, fun cs H2 s2 hcs => ?_⟩⟩
  have s12 := s1.trans s2
  have bd := rowsOf_bound (Vasedc.patch t u)
  have hb' : ∀ h ∈ Vasedc.hunks (Vasedc.patch t u), HB h := fun h hh => by
    rw [hunks_rows] at hh
    obtain ⟨y1, y2, y3, y4⟩ := mapRows_bound (N := 200) _ _ _ (fun k hk => by have := bd.2.1 k hk; omega) (fun o ho => by have := bd.2.2 o ho; omega) h hh
    exact ⟨y1, y2, y3, y4⟩
  have hl' : (Vasedc.hunks (Vasedc.patch t u)).length ≤ 1000 := by
    rw [hunks_rows]
    have := mapRows_len 0 (rowsOf (Vasedc.patch t u)).1 (rowsOf (Vasedc.patch t u)).2
    omega
  refine ⟨_, rfl, cs, c, _, v, rfl, hcs, s12 _ _ hc, zv, hl', hb', fun r H3 s3 hr3 => ?_⟩
  have s13 := s12.trans s3
  have ed : Vasedc.drift (Vasedc.patch t u) v = Vasedc.driftBy v 0 0 0 (Vasedc.hunks (Vasedc.patch t u)) := rfl
  unfold driftL at k
  rw [ed] at k ho
  cases hd : Vasedc.driftBy v 0 0 0 (Vasedc.hunks (Vasedc.patch t u)) with
  | ok w =>
    rw [hd] at hr3 k
    obtain ⟨l, e1, e2⟩ := hr3
    refine ⟨r, _, rfl, .of e1, rfl, _, _, rfl, _, _, rfl, rfl, ?_⟩
    refine ⟨_, rfl, rfl, _, rfl, if_of (fun cc => by simp at cc) (fun _ => ?_)⟩
    refine ⟨by show 1 ≤ sizeLine; decide, fun q hq => ?_⟩
    have s4 := (Same.refl H3).new (o := .lst [V.int 1]) hq
    refine ⟨_, rfl, l, w, rfl, s4 _ _ e2, ho w hd, fun z H5 s5 hz => ?_⟩
    have hw := ho w hd
    have hfl := flat_len w hw.2
    have hw1 := hw.1
    refine ⟨q, z, _, _, rfl, rfl, s5 _ _ upd_same, hz, small' ?_, fun y hy => k y _ (((s13.trans s4).trans s5).new hy) ?_ (((s13.trans s4).trans s5).free hy)⟩
    · have e3 : (w.map fun x => x ++ [(10 : UInt8)]).flatten = Vaseda.showText w := by
        unfold Vaseda.showText
        rw [List.flatMap_def]
      rw [e3] at hfl
      show 1 + (vI (txtL w)).length ≤ _
      rw [List.length_map]
      show 1 + (((Vaseda.showText w).map _).length + 1 + 1) ≤ _
      rw [List.length_map]
      omega
    · rw [upd_same]
      rfl
  | error n =>
    rw [hd] at hr3 k
    have e1 : H3 r = some (.tup [.non, .int (n : Nat)]) := hr3
    refine ⟨r, _, rfl, .of e1, rfl, _, _, rfl, _, _, rfl, rfl, ?_⟩
    refine ⟨_, rfl, rfl, _, rfl, if_of (fun _ => ?_) (fun cc => by simp at cc)⟩
    refine ⟨_, rfl, by show 2 ≤ sizeLine; decide, fun q hq => k q _ (s13.new hq) ?_ (s13.free hq)⟩
    rw [upd_same]
    rfl
abbrev s_hunks : Stmt := topS 104
theorem sc_hunks : FnScope ["one", "other", "changes", "found", "change"] ["one", "other"] (defScope s_hunks) := ⟨rfl, rfl, rfl, by decide +kernel, rfl, by decide +kernel, by decide +kernel⟩
def hunksL (hs : List Hunk) : List Int := (hs.length : Int) :: hs.flatMap Vasedc.hunkRow
def spHunks : Sp := fun vs H Q _ => ∃ (a b : Addr) (t u : Text), vs = [.ref a, .ref b] ∧ H a = some (.lst (vT t)) ∧ H b = some (.lst (vT u)) ∧ t.length ≤ 100 ∧ u.length ≤ 100 ∧
  ∀ r H', Same H H' → H' r = some (.lst (vI (hunksL (Vasedc.hunks (Vasedc.patch t u))))) → H r = none → Q (.ref r) H'
theorem hunkRow_len (hs : List Hunk) : (hs.flatMap Vasedc.hunkRow).length = hs.length * 5 := by
  induction hs with
  | nil => rfl
  | cons h hs ih =>
    rw [List.flatMap_cons, List.length_append, ih, List.length_cons]
    show 5 + _ = _
    omega
theorem ok_hunks (A : FnAt K mg "hunks" s_hunks ["one", "other"]) (T : Txt K mg) (D_least_patch : Dn P w K mg base CX0 2 "least_patch" ["one", "other"] spLeast) (D_changes_of : Dn P w K mg base CX0 3 "changes_of" ["marks"] (spChanges K)) :
    Dn P w K mg base CX0 4 "hunks" ["one", "other"] spHunks := A.dn fun f fd F => by
  refine ok0 F sc_hunks (fun vs H Q E h => ?_) (fun cdv A outer s H vs Q E hr h => ?_)
  · obtain ⟨a, b, t, u, rfl, _⟩ := h
    rfl
  obtain ⟨a, b, t, u, rfl, ha, hb, zt, zu, k⟩ := h
  have l1 := patch_len t u
  refine ⟨_, (pss_cons (ps_set (i := 2) sc_hunks.nd rfl (Or.inl rfl) (pe_f D_changes_of (hr.mono (by decide)) pass0 (pa_cons (pe_f D_least_patch (hr.mono (by decide)) pass0 (pa_cons (pv 0) (pa_cons (pv 1) pa_nil))) pa_nil)))
      (pss_cons (ps_set (i := 3) sc_hunks.nd rfl (Or.inl rfl) (pe_lst (pa_cons (pe_callB call_len (by rfl) T.f_len PySem.boot_len (pa_cons (pv 2) pa_nil)) pa_nil)))
      (pss_cons (ps_for PassesOwn.never rfl (pi_list (pv 2)) (pg_name (i := 4) sc_hunks.nd rfl (Or.inl rfl))
      (pss_one (ps_expr (pe_bm PySem.F.plainAttrs_list PySem.F.slot_list_extend PySem.F.type_list_extend mt_extend (pv 3) (pa_cons (pe_lst (pa_cons (pe_fld (pv 4) rfl) (pa_cons (pe_callB call_len (by rfl) T.f_len PySem.boot_len (pa_cons (pe_fld (pv 4) rfl) pa_nil)) (pa_cons (pe_callB call_len (by rfl) T.f_len PySem.boot_len (pa_cons (pe_fld (pv 4) rfl) pa_nil)) (pa_cons (pe_callB call_len (by rfl) T.f_len PySem.boot_len (pa_cons (pe_fld (pv 4) rfl) pa_nil)) (pa_cons (pe_callB call_len (by rfl) T.f_len PySem.boot_len (pa_cons (pe_fld (pv 4) rfl) pa_nil)) pa_nil)))))) pa_nil)))))
      (pss_one (ps_ret (pv 3)))))), ?_⟩
  refine ⟨_, rfl, _, rfl, a, b, t, u, rfl, ha, hb, zt, zu, fun p1 H1 s1 m1 => ⟨p1, _, rfl, m1, by omega, fun cs H2 s2 hcs => ?_⟩⟩
  have s12 := s1.trans s2
  obtain ⟨as, hc1, hc2⟩ := id hcs
  have lc := Paired.length hc2
  have bd := rowsOf_bound (Vasedc.patch t u)
  have hl' : (Vasedc.hunks (Vasedc.patch t u)).length ≤ 1000 := by
    rw [hunks_rows]
    have := mapRows_len 0 (rowsOf (Vasedc.patch t u)).1 (rowsOf (Vasedc.patch t u)).2
    omega
  generalize Vasedc.hunks (Vasedc.patch t u) = hs at *
  refine ⟨_, rfl, _, _, rfl, .inl ⟨_, .of hc1, rfl⟩, by show 1 ≤ sizeLine; decide, fun F0 hF0 => ?_⟩
  have hF00 : H F0 = none := s12.free hF0
  have s3 := (Same.refl H2).new (o := .lst [V.int ((as.map V.ref).length : Nat)]) hF0
  refine ⟨_, rfl, cs, rfl, ⟨_, .of (s3 _ _ hc1)⟩, ?_⟩
  refine for_it walk_list (fun i σ H' => ∃ x4, σ = [some (.ref a), some (.ref b), some (.ref cs), some (.ref F0), x4] ∧ Same H2 H' ∧ H' F0 = some (.lst (vI ((hs.length : Int) :: (hs.take i).flatMap Vasedc.hunkRow)))) ?_ (fun i σ H' _ h => by obtain ⟨_, _, s, _⟩ := h; exact .of (s _ _ hc1)) ?_ ?_
  · refine ⟨none, rfl, s3, ?_⟩
    rw [upd_same, List.length_map, ← lc]
    rfl
  · rintro i x σ H' H'' hi ⟨x4, rfl, s4, hl⟩ ⟨rfl, ex⟩
    rw [List.getElem?_map] at ex
    obtain ⟨c, ec, rfl⟩ := Option.map_eq_some_iff.mp ex
    obtain ⟨h, eh, hch⟩ := Paired.at hc2 ec
    obtain ⟨dx, b1, b2, b3, b4, h0, h1, h2, h3, h4⟩ := hch.mono s4
    have hlt := (List.getElem?_eq_some_iff.mp eh).1
    refine ⟨_, rfl, .inl ⟨rfl, _, .of hl⟩, ?_⟩
    refine ⟨_, rfl, c, _, dx, _, _, rfl, h0, T.cl_Change, T.na_Change_place, lk_Change_place, _, rfl, c, _, dx, _, _, rfl, h0, T.cl_Change, T.na_Change_before, lk_Change_before, _, _, rfl, .inl ⟨_, .of h1, rfl⟩,
      _, rfl, c, _, dx, _, _, rfl, h0, T.cl_Change, T.na_Change_outs, lk_Change_outs, _, _, rfl, .inl ⟨_, .of h2, rfl⟩, _, rfl, c, _, dx, _, _, rfl, h0, T.cl_Change, T.na_Change_ins, lk_Change_ins, _, _, rfl, .inl ⟨_, .of h3, rfl⟩,
      _, rfl, c, _, dx, _, _, rfl, h0, T.cl_Change, T.na_Change_behind, lk_Change_behind, _, _, rfl, .inl ⟨_, .of h4, rfl⟩, by show 5 ≤ sizeLine; decide, fun q hq => ?_⟩
    have Fq : F0 ≠ q := fun z => by rw [z, hq] at hl; cases hl
    refine ⟨F0, q, _, _, rfl, rfl, by rw [upd_ne Fq]; exact hl, upd_same, small' ?_, some (.ref c), rfl, (s4.new hq).mut hF0, ?_⟩
    · rw [List.length_map]
      show ((hs.take i).flatMap Vasedc.hunkRow).length + 1 + 5 ≤ _
      rw [hunkRow_len, List.length_take]
      omega
    · rw [upd_same, take_snoc eh, List.flatMap_append]
      simp [vI, Vasedc.hunkRow, Vasedc.nats, vT_len]
  · rintro σ H' ⟨x4, rfl, s4, hl⟩
    rw [List.length_map, ← lc, List.take_length] at hl
    exact ⟨_, rfl, k F0 H' (s12.trans s4) hl hF00⟩
end
end Lp
end
section
set_option maxHeartbeats 4000000
/-! ### own errors with an __init__ -/
namespace Lp
open PySem PySem.Spec PyProof.Rows L2
open PySem.W (Frag)
/-- an error class made by its __init__: what the text has -/
structure FnEx (K : Frag) (mg : Str → Option Value) (x : Str) (C : Addr) (qual : Str) (st : Stmt) (ps : List Str) : Prop where
  ex : ∃ f fd, FnP K "__init__" qual st f fd ∧ PySem.W.findIn K (.ref C) "__init__" = some (some (.ref f)) ∧ PySem.W.typeIn K (.ref f) = some (.type "function") ∧ mg x = some (.ref C) ∧ Binds K fd ps []
/-- .. with its promise -/
structure De (P : Program) (w : World) (K : Frag) (mg : Str → Option Value) (base : Heap) (k : Nat) (x : Str) (C : Addr) (ps : List Str) (sp : Sp) : Prop where
  ex : ∃ f fd, PySem.W.findIn K (.ref C) "__init__" = some (some (.ref f)) ∧ PySem.W.typeIn K (.ref f) = some (.type "function") ∧ mg x = some (.ref C) ∧ Binds K fd ps [] ∧ FnOk P w K mg base CX0 k f fd ps sp
theorem FnEx.de {P : Program} {w : World} {K : Frag} {mg : Str → Option Value} {base : Heap} {x : Str} {C : Addr} {qual : Str} {st : Stmt} {ps : List Str} {k : Nat} {sp : Sp} (A : FnEx K mg x C qual st ps) (h : ∀ f fd, FnP K "__init__" qual st f fd → FnOk P w K mg base CX0 k f fd ps sp) :
    De P w K mg base k x C ps sp := by
  obtain ⟨f, fd, h1, h2, h3, h4, h5⟩ := A.ex
  exact ⟨f, fd, h2, h3, h4, h5, h f fd h1⟩
theorem pmk_D {X : Cx} {x : Str} {C : Addr} {k : Nat} {ps : List Str} {sp : Sp} {e : Expr} {es : List Expr} {ta : TA} {p pos : Pos} (T : OexC X.K C) (D : De X.prog X.w X.K X.mg X.base k x C ps sp) (hr : Room (k + 1) X.A) (hg : Gl X x) (ha : PA X (e :: es) ta)
    (hdb : (x == ("__debug__" : Str)) = false := by decide) (he : starEach (e :: es) X.env = (false, eval e X.env) :: starEach es X.env := by rfl) (hpl : (backTo pos (starEach es X.env)).any (·.1) = false := by rfl) :
    PMk X (.Call (.Name x p) (e :: es) [] pos) (tMkO C sp [] ta) := by
  obtain ⟨f, fd, h1, h2, h3, h4, h5⟩ := D.ex
  exact pmk_oex T h1 h2 h5 hr h4 .nil pass0 hg h3 ha hdb he hpl
/-- the promise of such an __init__: the attributes F of its arguments -/
def spEx (C : Addr) (n : Nat) (F : List V → List (Str × V)) : Sp := fun vs H Q _ => ∃ (a : Addr) (ws : List V), vs = .ref a :: ws ∧ ws.length = n ∧ H a = some (exo a C none) ∧
  ∀ d H', (∀ b o, H b = some o → b ≠ a → H' b = some o) → H d = none → d ≠ a → H' a = some (exo a C (some d)) → H' d = some (exd d (F ws)) → Q .non H'
theorem mkF {C : Addr} {n : Nat} {F : List V → List (Str × V)} {vs : List V} {H1 : Hp} {Q : XK} {E : XK} (hl : vs.length = n) (hn : n ≤ 100) (h : ∀ d H', Same H1 H' → H' d = some (.xd (F vs)) → Q (.ref C) (some d) H') :
    vs.length ≤ 1000 ∧ ∀ a, H1 a = none → spEx C n F (.ref a :: (vs ++ [])) (upd H1 a (exo a C none)) (fun v H2 => v = .non ∧ ∃ (d : Addr) (fs : List (Str × V)), H2 a = some (exo a C (some d)) ∧ H2 d = some (exd d fs) ∧ H1 d = none ∧ Q (.ref C) (some d) (upd (del H2 a) d (.xd fs))) E := by
  refine ⟨by omega, fun a ha => ⟨a, vs, by rw [List.append_nil], hl, upd_same, fun d H' sb hd hne h1 h2 => ⟨rfl, d, F vs, h1, h2, ?_, h d _ ?_ upd_same⟩⟩⟩
  · rw [upd_ne hne] at hd
    exact hd
  · rw [upd_ne hne] at hd
    intro b o e
    have nba : b ≠ a := fun z => by rw [z, ha] at e; cases e
    have nbd : b ≠ d := fun z => by rw [z, hd] at e; cases e
    rw [upd_ne nbd, del_ne nba]
    exact sb b o (by rw [upd_ne nba]; exact e) nba
section
variable {P : Program} {w : World} {K : Frag} {mg : Str → Option Value} {base : Heap}
abbrev s_Fault_init : Stmt := inClass (topS 35) 0
theorem sc_Fault_init : FnScope ["self", "code", "place"] ["self", "code", "place"] (defScope s_Fault_init) := ⟨rfl, rfl, rfl, by decide +kernel, rfl, by decide +kernel, by decide +kernel⟩
def xFault : List V → List (Str × V)
  | [c, p] => [("place", p), ("code", c)]
  | _ => []
theorem ok_new_Fault (A : FnEx K mg "Fault" (cA K "Fault") "Fault.__init__" s_Fault_init ["self", "code", "place"]) (T : Txt K mg) : De P w K mg base 1 "Fault" (cA K "Fault") ["self", "code", "place"] (spEx (cA K "Fault") 2 xFault) := A.de fun f fd F => by
  refine ok0 F sc_Fault_init (fun vs H Q E h => ?_) (fun cdv A outer s H vs Q E hr h => ?_)
  · obtain ⟨a, ws, rfl, hl, _⟩ := h
    rw [List.length_cons, hl]
    rfl
  obtain ⟨a, ws, rfl, hl, hx, k⟩ := h
  obtain ⟨c, p, rfl⟩ : ∃ c p, ws = [c, p] := by
    match ws, hl with
    | [c, p], _ => exact ⟨c, p, rfl⟩
  refine ⟨_, (pss_cons (ps_expr (pe_veinit (by rfl) T.f_ValueError T.vV (pa_cons (pv 0) (pa_cons pe_str pa_nil))))
      (pss_cons (ps_ost (pv 0) (pv 1))
      (pss_one (ps_ost (pv 0) (pv 2))))), ?_⟩
  refine ⟨_, rfl, a, cA K "Fault", _, rfl, by decide, T.ox_Fault, hx, ?_⟩
  refine ⟨_, rfl, _, rfl, a, cA K "Fault", rfl, T.ox_Fault, T.na_Fault_code, .inl ⟨hx, fun dx hdx hne => ?_⟩⟩
  refine ⟨_, rfl, _, rfl, a, cA K "Fault", rfl, T.ox_Fault, T.na_Fault_place, .inr ⟨dx, _, upd_same, by rw [upd_ne hne, upd_same], by show 1 ≤ 900; decide, ?_⟩⟩
  refine k dx _ (fun b o e nb => ?_) hdx hne ?_ upd_same
  · have nd : b ≠ dx := fun z => by rw [z, hdx] at e; cases e
    rw [upd_ne nd, upd_ne nb, upd_ne nd]
    exact e
  · rw [upd_ne (Ne.symm hne), upd_same]
abbrev s_Refused_init : Stmt := inClass (topS 94) 0
theorem sc_Refused_init : FnScope ["self", "number"] ["self", "number"] (defScope s_Refused_init) := ⟨rfl, rfl, rfl, by decide +kernel, rfl, by decide +kernel, by decide +kernel⟩
def xRef : List V → List (Str × V)
  | [n] => [("number", n)]
  | _ => []
theorem ok_new_Refused (A : FnEx K mg "Refused" (cA K "Refused") "Refused.__init__" s_Refused_init ["self", "number"]) (T : Txt K mg) : De P w K mg base 1 "Refused" (cA K "Refused") ["self", "number"] (spEx (cA K "Refused") 1 xRef) := A.de fun f fd F => by
  refine ok0 F sc_Refused_init (fun vs H Q E h => ?_) (fun cdv A outer s H vs Q E hr h => ?_)
  · obtain ⟨a, ws, rfl, hl, _⟩ := h
    rw [List.length_cons, hl]
    rfl
  obtain ⟨a, ws, rfl, hl, hx, k⟩ := h
  obtain ⟨c, rfl⟩ : ∃ c, ws = [c] := by
    match ws, hl with
    | [c], _ => exact ⟨c, rfl⟩
  refine ⟨_, (pss_cons (ps_expr (pe_veinit (by rfl) T.f_ValueError T.vV (pa_cons (pv 0) (pa_cons pe_str pa_nil))))
      (pss_one (ps_ost (pv 0) (pv 1)))), ?_⟩
  refine ⟨_, rfl, a, cA K "Refused", _, rfl, by decide, T.ox_Refused, hx, ?_⟩
  refine ⟨_, rfl, _, rfl, a, cA K "Refused", rfl, T.ox_Refused, T.na_Refused_number, .inl ⟨hx, fun dx hdx hne => ?_⟩⟩
  refine k dx _ (fun b o e nb => ?_) hdx hne upd_same ?_
  · have nd : b ≠ dx := fun z => by rw [z, hdx] at e; cases e
    rw [upd_ne nb, upd_ne nd]
    exact e
  · rw [upd_ne hne, upd_same]
    rfl
abbrev s_want : Stmt := topS 95
theorem sc_want : FnScope ["good", "number"] ["good", "number"] (defScope s_want) := ⟨rfl, rfl, rfl, by decide +kernel, rfl, by decide +kernel, by decide +kernel⟩
/-- a way out: refused with a number -/
abbrev RefE (K : Frag) (E : XK) (H : Hp) (n : Int) : Prop := ∀ d H', Same H H' → H' d = some (.xd [("number", .int n)]) → E (.ref (cA K "Refused")) (some d) H'
def spWant (K : Frag) : Sp := fun vs H Q E => ∃ (b : Bool) (n : Int), vs = [.bl b, .int n] ∧ (b = true → Q .non H) ∧ (b = false → RefE K E H n)
theorem ok_want (A : FnAt K mg "want" s_want ["good", "number"]) (T : Txt K mg) (D_Refused : De P w K mg base 1 "Refused" (cA K "Refused") ["self", "number"] (spEx (cA K "Refused") 1 xRef)) : Dn P w K mg base (L2.CX P w) 3 "want" ["good", "number"] (spWant K) := A.dn fun f fd F => by
  refine okX F sc_want (fun vs H Q E h => ?_) (fun cdv A outer s H vs Q E hr h => ?_)
  · obtain ⟨b, n, rfl, _⟩ := h
    rfl
  obtain ⟨b, n, rfl, k1, k2⟩ := h
  refine ⟨_, (pss_one (ps_if (pt_not (pt_val (pv 0)))
      (pss_one (ps_raise rfl (takes_of rfl rfl rfl rfl) (pmk_D T.ox_Refused D_Refused (hr.mono (by decide)) (by rfl) (pa_cons (pv 1) pa_nil))))
      pss_nil)), ?_⟩
  refine ⟨_, rfl, b, rfl, ?_⟩
  cases b with
  | true => exact k1 rfl
  | false =>
    refine if_yes rfl ⟨_, rfl, mkF rfl (by decide) fun d H' s hd => k2 rfl d H' s hd⟩
end
end Lp
end
section
set_option maxHeartbeats 4000000
/-! ### letters, lines -/
namespace Lp
open PySem PySem.Spec PyProof.Rows L2
open PySem.W (Frag)
open VasedBase (Bytes word showNat isLetter isDigit)
open Vaseda (Line Text Cmd showCmd)
section
variable {P : Program} {w : World} {K : Frag} {mg : Str → Option Value} {base : Heap}
abbrev s_is_letter : Stmt := topS 37
theorem sc_is_letter : FnScope ["byte"] ["byte"] (defScope s_is_letter) := ⟨rfl, rfl, rfl, by decide +kernel, rfl, by decide +kernel, by decide +kernel⟩
def spIsLetter : Sp := fun vs H Q _ => ∃ b : UInt8, vs = [.int (b.toNat : Int)] ∧ Q (.bl (isLetter b)) H
theorem ok_is_letter (A : FnAt K mg "is_letter" s_is_letter ["byte"]) (T : Txt K mg) : Dn P w K mg base CX0 1 "is_letter" ["byte"] spIsLetter := A.dn fun f fd F => by
  refine ok0 F sc_is_letter (fun vs H Q E h => ?_) (fun cdv A outer s H vs Q E hr h => ?_)
  · obtain ⟨b, rfl, _⟩ := h
    rfl
  obtain ⟨b, rfl, k⟩ := h
  refine ⟨_, (pss_one (ps_ret (pe_chain op_le op_le (pe_gint T.g_FIRST_LETTER) (pv 0) (pe_gint T.g_LAST_LETTER)))), ?_⟩
  have e : isLetter b = decide (97 ≤ b.toNat ∧ b.toNat ≤ 122) := rfl
  rw [e] at k
  refine ⟨_, rfl, _, _, rfl, rfl, _, rfl, if_of (fun c => ⟨_, _, rfl, rfl, ?_⟩) (fun c => ?_)⟩
  · have c := of_decide_eq_true c
    have e2 : decide (97 ≤ b.toNat ∧ b.toNat ≤ 122) = decide ((b.toNat : Int) ≤ 122) := by
      rw [Bool.eq_iff_iff, decide_eq_true_iff, decide_eq_true_iff]
      omega
    rw [e2] at k
    exact k
  · have c := of_decide_eq_false c
    rw [decide_eq_false (by omega)] at k
    exact k
abbrev s_is_digit : Stmt := topS 38
theorem sc_is_digit : FnScope ["byte"] ["byte"] (defScope s_is_digit) := ⟨rfl, rfl, rfl, by decide +kernel, rfl, by decide +kernel, by decide +kernel⟩
def spIsDigit : Sp := fun vs H Q _ => ∃ b : UInt8, vs = [.int (b.toNat : Int)] ∧ Q (.bl (isDigit b)) H
theorem ok_is_digit (A : FnAt K mg "is_digit" s_is_digit ["byte"]) (T : Txt K mg) : Dn P w K mg base CX0 1 "is_digit" ["byte"] spIsDigit := A.dn fun f fd F => by
  refine ok0 F sc_is_digit (fun vs H Q E h => ?_) (fun cdv A outer s H vs Q E hr h => ?_)
  · obtain ⟨b, rfl, _⟩ := h
    rfl
  obtain ⟨b, rfl, k⟩ := h
  refine ⟨_, (pss_one (ps_ret (pe_chain op_le op_le (pe_gint T.g_FIRST_DIGIT) (pv 0) (pe_gint T.g_LAST_DIGIT)))), ?_⟩
  have e : isDigit b = decide (48 ≤ b.toNat ∧ b.toNat ≤ 57) := rfl
  rw [e] at k
  refine ⟨_, rfl, _, _, rfl, rfl, _, rfl, if_of (fun c => ⟨_, _, rfl, rfl, ?_⟩) (fun c => ?_)⟩
  · have c := of_decide_eq_true c
    have e2 : decide (48 ≤ b.toNat ∧ b.toNat ≤ 57) = decide ((b.toNat : Int) ≤ 57) := by
      rw [Bool.eq_iff_iff, decide_eq_true_iff, decide_eq_true_iff]
      omega
    rw [e2] at k
    exact k
  · have c := of_decide_eq_false c
    rw [decide_eq_false (by omega)] at k
    exact k
/-! letters_of -/
theorem letter_at : ∀ b : UInt8, isLetter b = true → atI (Str.ofString "abcdefghijklmnopqrstuvwxyz").cps.toList ((b.toNat : Int) - 97) = some b.toNat := fun b h => by
  have h : 97 ≤ b.toNat ∧ b.toNat ≤ 122 := of_decide_eq_true h
  have t : ∀ k, k < 26 → (Str.ofString "abcdefghijklmnopqrstuvwxyz").cps.toList[k]? = some (k + 97) := by decide +kernel
  have t1 := t (b.toNat - 97) (by omega)
  rw [show (b.toNat : Int) - 97 = ((b.toNat - 97 : Nat) : Int) from by omega, atI_nat t1]
  congr 1
  omega
theorem flat_singles (x : Bytes) : (x.map fun b => [b]).flatten = x := by
  induction x with
  | nil => rfl
  | cons b x ih => rw [List.map_cons, List.flatten_cons, ih]; rfl
abbrev s_letters_of : Stmt := topS 39
theorem sc_letters_of : FnScope ["data", "byte"] ["data"] (defScope s_letters_of) := ⟨rfl, rfl, rfl, by decide +kernel, rfl, by decide +kernel, by decide +kernel⟩
def spLetters : Sp := fun vs H Q _ => ∃ (a : Addr) (x : Bytes), vs = [.ref a] ∧ H a = some (.lst (vB x)) ∧ (∀ b ∈ x, isLetter b = true) ∧ x.length ≤ 100000 ∧ ∀ H', Same H H' → Q (vS x) H'
theorem ok_letters_of (A : FnAt K mg "letters_of" s_letters_of ["data"]) (T : Txt K mg) : Dn P w K mg base CX0 1 "letters_of" ["data"] spLetters := A.dn fun f fd F => by
  refine ok0 F sc_letters_of (fun vs H Q E h => ?_) (fun cdv A outer s H vs Q E hr h => ?_)
  · obtain ⟨a, x, rfl, _⟩ := h
    rfl
  obtain ⟨a, x, rfl, ha, hx, hz, k⟩ := h
  refine ⟨_, (pss_one (ps_ret (pe_join pe_str (by exact (pe_lc (own := [("byte", 1)]) (by rfl) sc_letters_of.nd (pi_list (pv 0)) (blkOk_by (own := [("byte", 1)]) (N := ["data", "byte"]) (sc := defScope s_letters_of) (by decide +kernel)) (fun _ _ _ _ _ => by exact (pg_name (i := 1) sc_letters_of.nd rfl (Or.inl rfl))) (fun _ _ _ _ _ => pts_nil) (fun _ _ _ _ _ => by exact (pe_ix ix_str (pe_gstr T.g_LETTERS) (pe_op op_sub (pv 1) (pe_gint T.g_FIRST_LETTER)) (fun _ _ => rfl)))))))), ?_⟩
  refine ⟨⟨_, rfl⟩, _, rfl, a, rfl, ⟨_, .of ha⟩, fun D hD => lc_map (fun b : UInt8 => V.int (b.toNat : Int)) (fun pre H' => Same H H' ∧ H' D = some (.lst (((pre.map fun b => [b]).map sOf).map V.str))) ⟨(Same.refl H).new hD, upd_same⟩ (fun pre H' h => .of (h.1 _ _ ha)) ?_ ?_⟩
  · rintro pre b post H' e ⟨s1, hl⟩
    have lp := pre_len e
    have hb := hx b (by rw [e]; simp)
    refine ⟨rfl, yes ⟨_, rfl, _, _, rfl, rfl, _, _, _, rfl, rfl, by decide, letter_at b hb, _, hl, small (by rw [List.length_map, List.length_map, List.length_map]; omega), s1.mut hD, ?_⟩⟩
    rw [upd_same, List.map_append, List.map_append, List.map_append]
    rfl
  · rintro H1 ⟨s1, hl⟩
    refine ⟨_, D, _, rfl, rfl, .inl (.of hl), ?_, ?_⟩
    · rw [sum_len, flat_singles]
      show _ + _ * 0 ≤ _
      omega
    rw [join_texts, flat_singles]
    exact k H1 s1
end
end Lp
end
section
set_option maxHeartbeats 4000000
/-! ### texts read; what calls answer that have texts alone -/
namespace Lp
open PySem PySem.Spec PyProof.Rows L2
open PySem.W (Frag)
open VasedBase (Bytes word showNat isLetter isDigit)
open Vaseda (Line Text Cmd showCmd)
open Vasedc (Op Patch Hunk)
theorem dpB (K : Frag) (H : Hp) : ∀ b : Bytes, DpAll K H (vB b) (b.map fun c => PyData.int (c.toNat : Int))
  | [] => .nil
  | x :: t => .cons (.int _) (dpB K H t)
theorem canB : ∀ b : Bytes, PyData.canLayAll0 (b.map fun c => PyData.int (c.toNat : Int)) = true
  | [] => rfl
  | x :: t => by
    show (PyData.canLay0 (.int _) && PyData.canLayAll0 _) = true
    rw [canB t, Bool.and_true]
    rfl
theorem depB : ∀ b : Bytes, PyData.depthAll (b.map fun c => PyData.int (c.toNat : Int)) ≤ 1
  | [] => by decide
  | x :: t => by
    have := depB t
    show max (PyData.depth (.int _)) (PyData.depthAll _) ≤ 1
    exact Nat.max_le.mpr ⟨Nat.zero_le _, this⟩
theorem shB (b : Bytes) : SeqAt.shaped (.list (b.map fun c => PyData.int (c.toNat : Int))) = true := by
  unfold SeqAt.shaped
  rw [Bool.and_eq_true]
  refine ⟨canB b, decide_eq_true ?_⟩
  have := depB b
  show PyData.depthAll _ + 1 ≤ 64
  omega
theorem eqvB0 (b : Bytes) : PyData.eqv (.list (b.map fun c => PyData.int (c.toNat : Int))) (.list []) = decide (b = []) := by
  cases b with
  | nil => rfl
  | cons x b => rfl
section
variable {P : Program} {w : World} {K : Frag} {mg : Str → Option Value} {base : Heap}
theorem RefE.mono {K : Frag} {E : XK} {H H' : Hp} {n : Int} (s : Same H H') (h : RefE K E H n) : RefE K E H' n := fun d H3 s3 hd => h d H3 (s.trans s3) hd
abbrev s_lines_of : Stmt := topS 97
theorem sc_lines_of : FnScope ["data", "found", "line", "byte"] ["data"] (defScope s_lines_of) := ⟨rfl, rfl, rfl, by decide +kernel, rfl, by decide +kernel, by decide +kernel⟩
def spLines (K : Frag) : Sp := fun vs H Q E => ∃ (a : Addr) (b : Bytes), vs = [.ref a] ∧ H a = some (.lst (vB b)) ∧ b.length ≤ 100000 ∧ (∀ t, Vaseda.readText b = some t → ∀ r H', Same H H' → H r = none → H' r = some (.lst (vT t)) → Q (.ref r) H') ∧ (Vaseda.readText b = none → RefE K E H (-4))
theorem ok_lines_of (A : FnAt K mg "lines_of" s_lines_of ["data"]) (T : Txt K mg) (D_want : Dn P w K mg base (L2.CX P w) 3 "want" ["good", "number"] (spWant K)) (D_is_letter : Dn P w K mg base CX0 1 "is_letter" ["byte"] spIsLetter)
    (D_letters_of : Dn P w K mg base CX0 1 "letters_of" ["data"] spLetters) : Dn P w K mg base (L2.CX P w) 4 "lines_of" ["data"] (spLines K) := A.dn fun f fd F => by
  refine okX F sc_lines_of (fun vs H Q E h => ?_) (fun cdv A outer s H vs Q E hr h => ?_)
  · obtain ⟨a, b, rfl, _⟩ := h
    rfl
  obtain ⟨a, b, rfl, ha, hz, k1, k2⟩ := h
  refine ⟨_, (pss_cons (ps_set (i := 1) sc_lines_of.nd rfl (Or.inl rfl) (pe_lst pa_nil))
      (pss_cons (ps_set (i := 2) sc_lines_of.nd rfl (Or.inl rfl) (pe_lst pa_nil))
      (pss_cons (ps_for (passes_of rfl) rfl (pi_list (pv 0)) (pg_name (i := 3) sc_lines_of.nd rfl (Or.inl rfl))
      (pss_cons (ps_expr (pe_f D_want (hr.mono (by decide)) (passes_call (takes_of rfl rfl rfl rfl) (fun _ _ _ _ h => h)) (pa_cons (pe_or (pe_cmpR op_eq (pv 3) (pe_gint T.g_LINE_END) (nomark _)) (pe_one (pe_and (pe_f D_is_letter (hr.mono (by decide)) pass0 (pa_cons (pv 3) pa_nil)) (pe_one (pe_cmpR op_lt (pe_callB call_len (by rfl) T.f_len PySem.boot_len (pa_cons (pv 2) pa_nil)) (pe_gint T.g_MOST_LETTERS_patches) (nomark _)))))) (pa_cons (pe_gint T.g_BAD_TEXT) pa_nil))))
      (pss_one (ps_if (pt_cmpR op_eq (pv 3) (pe_gint T.g_LINE_END) (nomark _))
      (pss_cons (ps_expr (pe_bm PySem.F.plainAttrs_list PySem.F.slot_list_append PySem.F.type_list_append mt_append (pv 1) (pa_cons (pe_f D_letters_of (hr.mono (by decide)) pass0 (pa_cons (pv 2) pa_nil)) pa_nil)))
      (pss_one (ps_set (i := 2) sc_lines_of.nd rfl (Or.inl rfl) (pe_lst pa_nil))))
      (pss_one (ps_expr (pe_bm PySem.F.plainAttrs_list PySem.F.slot_list_append PySem.F.type_list_append mt_append (pv 2) (pa_cons (pv 3) pa_nil))))))))
      (pss_cons (ps_expr (pe_f D_want (hr.mono (by decide)) (passes_call (takes_of rfl rfl rfl rfl) (fun _ _ _ _ h => h)) (pa_cons (pe_and (pe_cmpR (op_eqD hr.units) (pv 2) (pe_lst pa_nil) (nomark _)) (pe_one (pe_cmpR op_le (pe_callB call_len (by rfl) T.f_len PySem.boot_len (pa_cons (pv 1) pa_nil)) (pe_gint T.g_MOST_LINES) (nomark _)))) (pa_cons (pe_gint T.g_BAD_TEXT) pa_nil))))
      (pss_one (ps_ret (pv 1))))))), ?_⟩
  refine ⟨by show 0 ≤ sizeLine; decide, fun F0 hF0 => ⟨by show 0 ≤ sizeLine; decide, fun L0 hL0 => ?_⟩⟩
  have nFL0 : F0 ≠ L0 := fun z => by rw [← z, upd_same] at hL0; cases hL0
  have hL00 : H L0 = none := by rw [upd_ne (Ne.symm nFL0)] at hL0; exact hL0
  have s0 := ((Same.refl H).new (o := .lst []) hF0).new (o := .lst []) hL0
  refine ⟨_, rfl, a, rfl, ⟨_, .of (s0 _ _ ha)⟩, ?_⟩
  refine for_map (fun c : UInt8 => V.int (c.toNat : Int)) (fun pre σ H' => ∃ x3, ∃ (L : Addr) (f : Text) (l : Line), σ = [some (.ref a), some (.ref F0), some (.ref L), x3] ∧ Same H H' ∧ H L = none ∧ F0 ≠ L ∧ H' F0 = some (.lst (vT f)) ∧ H' L = some (.lst (vB l)) ∧ f.length ≤ pre.length ∧ l.length ≤ 16 ∧ (∀ c ∈ l, isLetter c = true) ∧
    ∀ post, b = pre ++ post → rdLoop b [] [] = rdLoop post f l) ?_ (fun pre σ H' h => by obtain ⟨_, _, _, _, _, s, _⟩ := h; exact .of (s _ _ ha)) ?_ ?_
  · exact ⟨none, L0, [], [], rfl, s0, hL00, nFL0, by rw [upd_ne nFL0, upd_same]; rfl, upd_same, Nat.le_refl _, by simp, (fun c hc => nomatch hc), fun post e => by rw [e]; rfl⟩
  · rintro pre c post σ H' e ⟨x3, L, f, l, rfl, s1, hL0, nFL, hf, hl, zf, zl, al, eq⟩
    have lp := pre_len e
    have eq := eq _ e
    have nxt : ∀ post', b = (pre ++ [c]) ++ post' → post' = post := fun post' e' => by
      rw [e, List.append_assoc] at e'
      have := List.append_cancel_left e'
      simpa using this.symm
    have es : rdLoop (c :: post) f l = if c = 10 then rdLoop post (f ++ [l]) [] else if isLetter c = true ∧ l.length < 16 then rdLoop post f (l ++ [c]) else none := rfl
    rw [es] at eq
    have ec : decide (V.int (c.toNat : Int) = V.int 10) = decide (c = 10) := by
      rw [Bool.eq_iff_iff, decide_eq_true_iff, decide_eq_true_iff]
      constructor
      · intro z
        have z : (c.toNat : Int) = 10 := by injection z
        exact UInt8.toNat_inj.mp (by show c.toNat = 10; omega)
      · intro z
        rw [z]
        rfl
    refine ⟨_, rfl, rfl, _, rfl, ?_⟩
    rw [ec]
    refine if_of (fun c1 => ?_) (fun c1 => ?_)
    · have c1 : c = 10 := of_decide_eq_true c1
      rw [if_pos c1] at eq
      refine ⟨true, _, rfl, fun _ => ?_, (fun z => nomatch z)⟩
      refine ⟨_, rfl, rfl, _, rfl, ?_⟩
      rw [ec]
      refine if_of (fun _ => ?_) (fun z => absurd c1 (of_decide_eq_false z))
      refine ⟨_, rfl, .inl ⟨rfl, _, .of hf⟩, _, rfl, L, l, rfl, hl, al, by omega, fun H5 s5 => ?_⟩
      have s15 := s1.trans s5
      refine ⟨F0, _, _, rfl, rfl, s5 _ _ hf, small (by rw [vT_len]; omega), ?_⟩
      refine ⟨by show 0 ≤ sizeLine; decide, fun L' hL' => ?_⟩
      have nFL' : F0 ≠ L' := fun z => by rw [← z, upd_same] at hL'; cases hL'
      have s6 := s15.mut (o := .lst (vT f ++ [vS l])) hF0
      refine ⟨some (.int (c.toNat : Int)), L', f ++ [l], [], rfl, s6.new hL', s6.free hL', nFL', ?_, upd_same, ?_, by simp, (fun c hc => nomatch hc), fun post' e' => by rw [nxt post' e']; exact eq⟩
      · rw [upd_ne nFL', upd_same]
        simp [vT]
      · rw [List.length_append, List.length_append]
        show f.length + 1 ≤ pre.length + 1
        omega
    · have c1 : ¬ c = 10 := of_decide_eq_false c1
      rw [if_neg c1] at eq
      refine ⟨_, rfl, c, rfl, _, rfl, ?_⟩
      have bad : ¬ (isLetter c = true ∧ l.length < 16) → RefE K E H' (-4) := fun z => by
        rw [if_neg z] at eq
        refine RefE.mono s1 (k2 ?_)
        rw [read_loop, eq]
        rfl
      have good : (isLetter c = true ∧ l.length < 16) → rdLoop b [] [] = rdLoop post f (l ++ [c]) := fun z => by rw [if_pos z] at eq; exact eq
      refine if_of (fun c2 => ?_) (fun c2 => ?_)
      · refine ⟨_, rfl, _, l.length, rfl, .inl ⟨_, .of hl, by rw [List.length_map]⟩, _, _, rfl, rfl, ?_⟩
        refine ⟨_, -4, rfl, fun c3 => ?_, fun c3 => ?_⟩
        · have c3 := of_decide_eq_true c3
          refine ⟨_, rfl, rfl, _, rfl, ?_⟩
          rw [ec]
          refine if_of (fun z => absurd (of_decide_eq_true z) c1) (fun _ => ?_)
          refine ⟨_, rfl, .inl ⟨rfl, _, .of hl⟩, _, rfl, L, _, _, rfl, rfl, hl, small (by rw [List.length_map]; omega), ?_⟩
          refine ⟨some (.int (c.toNat : Int)), L, f, l ++ [c], rfl, s1.mut hL0, hL0, nFL, by rw [upd_ne nFL]; exact hf, ?_, ?_, ?_, fun x hx => ?_, fun post' e' => by rw [nxt post' e']; exact good ⟨c2, by omega⟩⟩
          · rw [upd_same]
            simp [vB]
          · rw [List.length_append]; omega
          · rw [List.length_append]; show l.length + 1 ≤ 16; omega
          · rcases List.mem_append.mp hx with hx | hx
            · exact al x hx
            · rw [List.mem_singleton.mp hx]; exact c2
        · have c3 := of_decide_eq_false c3
          exact bad fun z => by omega
      · exact ⟨false, -4, rfl, (fun z => nomatch z), fun _ => bad fun z => by rw [c2] at z; exact nomatch z.1⟩
  · rintro σ H' ⟨x3, L, f, l, rfl, s1, hL0, nFL, hf, hl, zf, zl, al, eq⟩
    have eq := eq [] (by simp)
    have er : Vaseda.readText b = rdEnd (f, l) := by rw [read_loop, eq]; rfl
    refine ⟨_, rfl, by show 0 ≤ sizeLine; decide, fun e he => ?_⟩
    have nLe : L ≠ e := fun z => by rw [z, he] at hl; cases hl
    have nFe : F0 ≠ e := fun z => by rw [z, he] at hf; cases hf
    have s2 := s1.new (o := .lst []) he
    refine ⟨_, _, .lst (.of (by rw [upd_ne nLe]; exact hl)) (dpB K _ l), .lst (.of upd_same) .nil, shB _, shB [], ?_⟩
    rw [eqvB0]
    refine ⟨_, rfl, if_of (fun c1 => ?_) (fun c1 => ?_)⟩
    · have c1 := of_decide_eq_true c1
      have hf' : upd H' e (.lst []) F0 = some (.lst (vT f)) := by rw [upd_ne nFe]; exact hf
      refine ⟨_, rfl, _, f.length, rfl, .inl ⟨_, .of hf', vT_len.symm⟩, _, _, rfl, rfl, ?_⟩
      refine ⟨_, -4, rfl, fun c2 => ?_, fun c2 => ?_⟩
      · have c2 := of_decide_eq_true c2
        refine ⟨_, rfl, k1 f ?_ F0 _ s2 hF0 hf'⟩
        rw [er]
        unfold rdEnd
        rw [if_pos ⟨c1, by show f.length ≤ 24; omega⟩]
      · have c2 := of_decide_eq_false c2
        refine RefE.mono s2 (k2 ?_)
        rw [er]
        unfold rdEnd
        rw [if_neg (fun z => by have : f.length ≤ 24 := z.2; omega)]
    · have c1 := of_decide_eq_false c1
      refine ⟨false, -4, rfl, (fun z => nomatch z), fun _ => RefE.mono s2 (k2 ?_)⟩
      rw [er]
      unfold rdEnd
      rw [if_neg (fun z => c1 z.1)]
abbrev s_script_told : Stmt := topS 99
theorem sc_script_told : FnScope ["marks", "commands", "data"] ["marks"] (defScope s_script_told) := ⟨rfl, rfl, rfl, by decide +kernel, rfl, by decide +kernel, by decide +kernel⟩
theorem RefE.id {E : XK} {H : Hp} {n : Int} (h : RefE K E H n) : RefE K E H n := h
def scriptL (p : Patch) : Option (List Int) := (Vasedc.scriptOf p).map fun s => (s.length : Int) :: VasedBase.textRow (Vaseda.shown s)
def spSTold (K : Frag) : Sp := fun vs H Q E => ∃ (a : Addr) (p : Patch), vs = [.ref a] ∧ MkAt H a p ∧ p.length ≤ 900 ∧ LnOk p ∧ (∀ l, scriptL p = some l → ∀ r H', Same H H' → H' r = some (.lst (vI l)) → H r = none → Q (.ref r) H') ∧ (scriptL p = none → RefE K E H (-6))
theorem cmd_len {n : Nat} {x : Line} (hn : n ≤ 1000) (hx : x.length ≤ 1000) : (showCmd (putCmd n x)).length ≤ 2500 := by
  have wn := num_len n
  have w1 : (word "if line 1 before ").length = 17 := by decide +kernel
  have w2 : (word " ;\n").length = 3 := by decide +kernel
  have w3 : (word "if line ").length = 8 := by decide +kernel
  have w4 : (word " after ").length = 7 := by decide +kernel
  unfold putCmd
  split
  · rw [show_before, List.length_append, List.length_append, w1, w2]
    omega
  · rw [show_after, List.length_append, List.length_append, List.length_append, List.length_append, w2, w3, w4]
    omega
theorem del_len {n : Nat} (hn : n ≤ 1000) : (showCmd ⟨.line n, .delete⟩).length ≤ 2500 := by
  have wn := num_len n
  have w3 : (word "if line ").length = 8 := by decide +kernel
  have w4 : (word " delete ;\n").length = 10 := by decide +kernel
  rw [show_delete, List.length_append, List.length_append, w3, w4]
  omega
theorem cmds_small : ∀ (p : Patch) (n : Nat) (gone : Bool), n + p.length ≤ 1000 → LnOk p → ∀ c ∈ Vasedc.cmdsBy n [] gone p, (showCmd c).length ≤ 2500
  | [], n, gone, hn, _, c, hc => by
    rw [cmds_nil] at hc
    unfold delOf at hc
    split at hc
    · rw [List.mem_singleton.mp hc]
      exact del_len (by omega)
    · cases hc
  | .put x :: r, n, gone, hn, hL, c, hc => by
    rw [cmds_put] at hc
    rw [List.length_cons] at hn
    rcases List.mem_cons.mp hc with e | hc
    · rw [e]
      exact cmd_len (by omega) (hL _ List.mem_cons_self)
    · exact cmds_small r n gone (by omega) (fun o ho => hL o (List.mem_cons_of_mem _ ho)) c hc
  | .keep x :: r, n, gone, hn, hL, c, hc => by
    rw [cmds_keep] at hc
    rw [List.length_cons] at hn
    rcases List.mem_append.mp hc with hc | hc
    · unfold delOf at hc
      split at hc
      · rw [List.mem_singleton.mp hc]
        exact del_len (by omega)
      · cases hc
    · exact cmds_small r (n + 1) false (by omega) (fun o ho => hL o (List.mem_cons_of_mem _ ho)) c hc
  | .drop x :: r, n, gone, hn, hL, c, hc => by
    rw [cmds_drop] at hc
    rw [List.length_cons] at hn
    rcases List.mem_append.mp hc with hc | hc
    · unfold delOf at hc
      split at hc
      · rw [List.mem_singleton.mp hc]
        exact del_len (by omega)
      · cases hc
    · exact cmds_small r (n + 1) true (by omega) (fun o ho => hL o (List.mem_cons_of_mem _ ho)) c hc
theorem shown_len (s : List Cmd) (h : ∀ c ∈ s, (showCmd c).length ≤ 2500) : (Vaseda.shown s).length ≤ s.length * 2500 := by
  induction s with
  | nil => exact Nat.zero_le _
  | cons c s ih =>
    have := ih (fun c hc => h c (List.mem_cons_of_mem _ hc))
    have h0 := h c List.mem_cons_self
    show (showCmd c ++ Vaseda.shown s).length ≤ _
    rw [List.length_append, List.length_cons]
    omega
theorem script_small {p : Patch} {s : List Cmd} (hz : p.length ≤ 900) (hL : LnOk p) (h : Vasedc.scriptOf p = some s) : s.length ≤ 16 ∧ (Vaseda.shown s).length ≤ 40000 := by
  rw [script_eq] at h
  split at h
  · cases h
  · rename_i c
    cases h
    have l : (Vasedc.cmdsBy 0 [] false p).length ≤ 16 := by
      by_cases d : 16 < (Vasedc.cmdsBy 0 [] false p).length
      · exact absurd (.inr (.inr d)) c
      · omega
    have := shown_len _ (cmds_small p 0 false (by omega) hL)
    exact ⟨l, by omega⟩
theorem ok_script_told (A : FnAt K mg "script_told" s_script_told ["marks"]) (T : Txt K mg) (D_want : Dn P w K mg base (L2.CX P w) 3 "want" ["good", "number"] (spWant K)) (D_script_for : Dn P w K mg base CX0 3 "script_for" ["marks"] spScript)
    (D_bytes_of : Dn P w K mg base CX0 1 "bytes_of" ["text"] spBytes) : Dn P w K mg base (L2.CX P w) 4 "script_told" ["marks"] (spSTold K) := A.dn fun f fd F => by
  refine okX F sc_script_told (fun vs H Q E h => ?_) (fun cdv A outer s H vs Q E hr h => ?_)
  · obtain ⟨a, b, rfl, _⟩ := h
    rfl
  obtain ⟨a, p, rfl, hm, hz, hL, k1, k2⟩ := h
  refine ⟨_, (pss_cons (ps_set (i := 1) sc_script_told.nd rfl (Or.inl rfl) (pe_f D_script_for (hr.mono (by decide)) pass0 (pa_cons (pv 0) pa_nil)))
      (pss_cons (ps_expr (pe_f D_want (hr.mono (by decide)) (passes_call (takes_of rfl rfl rfl rfl) (fun _ _ _ _ h => h)) (pa_cons (pe_cmpR op_notN (pv 1) pe_non (nomark _)) (pa_cons (pe_gint T.g_NO_NUMBERED) pa_nil))))
      (pss_cons (ps_set (i := 2) sc_script_told.nd rfl (Or.inl rfl) (pe_f D_bytes_of (hr.mono (by decide)) pass0 (pa_cons (pe_join pe_str (pv 1)) pa_nil)))
      (pss_one (ps_ret (pe_op op_cat (pe_lst (pa_cons (pe_callB call_len (by rfl) T.f_len PySem.boot_len (pa_cons (pv 1) pa_nil)) (pa_cons (pe_callB call_len (by rfl) T.f_len PySem.boot_len (pa_cons (pv 2) pa_nil)) pa_nil))) (pv 2))))))), ?_⟩
  refine ⟨_, rfl, a, p, rfl, hm, hz, hL, fun v H1 s1 hv => ?_⟩
  unfold scriptL at k1 k2
  cases hs : Vasedc.scriptOf p with
  | none =>
    rw [hs] at hv k2
    obtain rfl : v = .non := hv
    exact ⟨_, rfl, rfl, false, -6, rfl, (fun z => nomatch z), fun _ => RefE.mono s1 (k2 rfl)⟩
  | some cs =>
    rw [hs] at hv k1
    obtain ⟨r, rfl, hr1⟩ := hv
    obtain ⟨l1, l2⟩ := script_small hz hL hs
    have es : vC cs = ((cs.map showCmd).map sOf).map V.str := by rw [List.map_map, List.map_map]; rfl
    have ef : (cs.map showCmd).flatten = Vaseda.shown cs := by
      unfold Vaseda.shown
      rw [List.flatMap_def]
    refine ⟨_, rfl, rfl, true, -6, rfl, fun _ => ?_, (fun z => nomatch z)⟩
    refine ⟨⟨_, rfl⟩, _, rfl, _, r, _, rfl, rfl, .inl (.of (by rw [hr1, es])), ?_, ?_⟩
    · rw [sum_len, ef]
      show _ + _ * 0 ≤ _
      omega
    rw [join_texts, ef]
    refine ⟨_, rfl, by omega, fun q H2 s2 hq => ?_⟩
    have hr2 := s2 _ _ hr1
    refine ⟨_, rfl, _, _, rfl, .inl ⟨_, .of hr2, rfl⟩, _, rfl, _, _, rfl, .inl ⟨_, .of hq, rfl⟩, by show 2 ≤ sizeLine; decide, fun y hy => ?_⟩
    have qy : q ≠ y := fun z => by rw [z, hy] at hq; cases hq
    refine ⟨_, rfl, y, q, _, _, rfl, rfl, upd_same, by rw [upd_ne qy]; exact hq, small' (by have e0 : (vB (Vaseda.shown cs)).length = (Vaseda.shown cs).length := List.length_map ..; show 2 + (vB _).length ≤ _; omega), fun z hz => k1 _ rfl z _ (((s1.trans s2).new hy).new hz) ?_ (((s1.trans s2).new hy).free hz)⟩
    rw [upd_same, List.length_map, List.length_map]
    show some (HO.lst _) = some (.lst (V.int (cs.length : Int) :: V.int ((Vaseda.shown cs).length : Int) :: ((Vaseda.shown cs).map fun c => (c.toNat : Int)).map V.int))
    rw [List.map_map]
    rfl
abbrev s_of_texts : Stmt := topS 105
theorem sc_of_texts : FnScope ["call", "texts"] ["call", "texts"] (defScope s_of_texts) := ⟨rfl, rfl, rfl, by decide +kernel, rfl, by decide +kernel, by decide +kernel⟩
def TxLt (t : Text) : Prop := t.length ≤ 24 ∧ ∀ x ∈ t, x.length ≤ 16
/-- what is due of a call that has texts alone; refused by a number -/
def textsL (c : Int) (ts : List Text) : Option (List Int) := match ts with
  | [t, u] => if c = 1 then some (ansL (Vasedc.patchAnswer (Vasedc.patch t u))) else if c = 3 then scriptL (Vasedc.patch t u) else some (hunksL (Vasedc.hunks (Vasedc.patch t u)))
  | [t, u, v] => if c = 5 then some (driftL t u v) else some [(Vasedc.costOf (Vasedc.both (Vasedc.patch t u) (Vasedc.patch u v)) : Int), (Vasedc.costOf (Vasedc.patch t u) : Int), (Vasedc.costOf (Vasedc.patch u v) : Int), (Vasedc.costOf (Vasedc.patch t v) : Int)]
  | _ => none
def spOfT (K : Frag) : Sp := fun vs H Q E => ∃ (c : Int) (a : Addr) (ts : List Text), vs = [.int c, .ref a] ∧ LTx H a ts ∧ (∀ t ∈ ts, TxLt t) ∧ ((ts.length = 2 ∧ (c = 1 ∨ c = 3 ∨ c = 7)) ∨ (ts.length = 3 ∧ (c = 5 ∨ c = 6))) ∧
  (∀ l, textsL c ts = some l → ∀ r H', Same H H' → H' r = some (.lst (vI l)) → H r = none → Q (.ref r) H') ∧ (textsL c ts = none → RefE K E H (-6))
theorem pFrom_lines (a b : Text) : ∀ (m i j : Nat), (a.length - i) + (b.length - j) = m → ∀ o ∈ pFrom a b i j, Vasedc.lineIn o ∈ a ∨ Vasedc.lineIn o ∈ b := by
  intro m
  induction m using Nat.strongRecOn with
  | _ m ih =>
    intro i j hm o ho
    by_cases h1 : i < a.length
    · by_cases h2 : j < b.length
      · rw [pFrom_step a b i j h1 h2] at ho
        have ha : a[i] ∈ a := List.getElem_mem _
        have hb : b[j] ∈ b := List.getElem_mem _
        split at ho
        · rcases List.mem_cons.mp ho with rfl | ho
          · exact .inl ha
          · exact ih _ (by omega) (i + 1) (j + 1) rfl o ho
        · split at ho
          · rcases List.mem_cons.mp ho with rfl | ho
            · exact .inl ha
            · exact ih _ (by omega) (i + 1) j rfl o ho
          · rcases List.mem_cons.mp ho with rfl | ho
            · exact .inr hb
            · exact ih _ (by omega) i (j + 1) rfl o ho
      · rw [pFrom_end1 a b i j (by omega)] at ho
        obtain ⟨x, hx, rfl⟩ := List.mem_map.mp ho
        exact .inl (List.mem_of_mem_drop hx)
    · rw [pFrom_end0 a b i j (by omega)] at ho
      obtain ⟨x, hx, rfl⟩ := List.mem_map.mp ho
      exact .inr (List.mem_of_mem_drop hx)
theorem patch_lines {t u : Text} (ht : TxLt t) (hu : TxLt u) : ∀ o ∈ Vasedc.patch t u, (Vasedc.lineIn o).length ≤ 16 := fun o ho => by
  rw [← pFrom_zero] at ho
  rcases pFrom_lines t u _ 0 0 rfl o ho with h | h
  · exact ht.2 _ h
  · exact hu.2 _ h
theorem drift_ok {t u v w : Text} (ht : TxLt t) (hu : TxLt u) (hv : TxLt v) (h : Vasedc.drift (Vasedc.patch t u) v = .ok w) : TxOk w := by
  have lp := patch_len t u
  have l1 := ht.1
  have l2 := hu.1
  have l3 := hv.1
  have bd := rowsOf_bound (Vasedc.patch t u)
  have hb : ∀ h ∈ Vasedc.hunks (Vasedc.patch t u), h.new.length ≤ 48 ∧ ∀ x ∈ h.new, x.length ≤ 16 := fun h hh => by
    rw [hunks_rows] at hh
    obtain ⟨_, _, y3, _⟩ := mapRows_bound (N := 48) _ _ _ (fun k hk => by have := bd.2.1 k hk; omega) (fun o ho => by have := bd.2.2 o ho; omega) h hh
    refine ⟨y3, mapRows_new (B := 16) _ _ _ (fun o ho m hm => ?_) h hh⟩
    rw [rowsOf_A] at ho
    exact patch_lines ht hu m (rowA_mem _ _ o ho m hm)
  obtain ⟨h1, h2⟩ := drift_small (N := 48) (B := 16) hv.2 _ 0 0 0 w h hb
  have h3 : (Vasedc.hunks (Vasedc.patch t u)).length ≤ 48 := by
    rw [hunks_rows]
    have := mapRows_len 0 (rowsOf (Vasedc.patch t u)).1 (rowsOf (Vasedc.patch t u)).2
    omega
  refine ⟨?_, fun x hx => Nat.le_trans (h2 x hx) (by decide)⟩
  have : (Vasedc.hunks (Vasedc.patch t u)).length * 48 ≤ 48 * 48 := Nat.mul_le_mul_right _ h3
  omega
theorem ltx2 {H : Hp} {a : Addr} {t u : Text} (h : LTx H a [t, u]) : ∃ p q, H a = some (.lst [.ref p, .ref q]) ∧ H p = some (.lst (vT t)) ∧ H q = some (.lst (vT u)) := by
  obtain ⟨as, h1, h2⟩ := h
  cases h2 with
  | cons e1 h2 =>
    cases h2 with
    | cons e2 h2 =>
      cases h2
      exact ⟨_, _, h1, e1, e2⟩
theorem ltx3 {H : Hp} {a : Addr} {t u v : Text} (h : LTx H a [t, u, v]) : ∃ p q r, H a = some (.lst [.ref p, .ref q, .ref r]) ∧ H p = some (.lst (vT t)) ∧ H q = some (.lst (vT u)) ∧ H r = some (.lst (vT v)) := by
  obtain ⟨as, h1, h2⟩ := h
  cases h2 with
  | cons e1 h2 =>
    cases h2 with
    | cons e2 h2 =>
      cases h2 with
      | cons e3 h2 =>
        cases h2
        exact ⟨_, _, _, h1, e1, e2, e3⟩
theorem ok_of_texts (A : FnAt K mg "of_texts" s_of_texts ["call", "texts"]) (T : Txt K mg) (D_patch_told : Dn P w K mg base CX0 2 "patch_told" ["marks"] spPTold) (D_least_patch : Dn P w K mg base CX0 2 "least_patch" ["one", "other"] spLeast)
    (D_script_told : Dn P w K mg base (L2.CX P w) 4 "script_told" ["marks"] (spSTold K)) (D_drift : Dn P w K mg base CX0 4 "drift" ["one", "other", "third"] spDrift) (D_both : Dn P w K mg base CX0 3 "both" ["one", "other", "third"] spBoth)
    (D_hunks : Dn P w K mg base CX0 4 "hunks" ["one", "other"] spHunks) : Dn P w K mg base (L2.CX P w) 5 "of_texts" ["call", "texts"] (spOfT K) := A.dn fun f fd F => by
  refine okX F sc_of_texts (fun vs H Q E h => ?_) (fun cdv A outer s H vs Q E hr h => ?_)
  · obtain ⟨a, b, c, rfl, _⟩ := h
    rfl
  obtain ⟨c, a, ts, rfl, hx, hl, hc, k1, k2⟩ := h
  refine ⟨_, (pss_cons (ps_if (pt_cmpR op_eq (pv 0) pe_int (nomark _))
      (pss_one (ps_ret (pe_f D_patch_told (hr.mono (by decide)) pass0 (pa_cons (pe_f D_least_patch (hr.mono (by decide)) pass0 (pa_cons (pe_ix ix_list (pv 1) pe_int (fun _ _ => rfl)) (pa_cons (pe_ix ix_list (pv 1) pe_int (fun _ _ => rfl)) pa_nil))) pa_nil))))
      pss_nil)
      (pss_cons (ps_if (pt_cmpR op_eq (pv 0) pe_int (nomark _))
      (pss_one (ps_ret (pe_f D_script_told (hr.mono (by decide)) (passes_call (takes_of rfl rfl rfl rfl) (fun _ _ _ _ h => h)) (pa_cons (pe_f D_least_patch (hr.mono (by decide)) pass0 (pa_cons (pe_ix ix_list (pv 1) pe_int (fun _ _ => rfl)) (pa_cons (pe_ix ix_list (pv 1) pe_int (fun _ _ => rfl)) pa_nil))) pa_nil))))
      pss_nil)
      (pss_cons (ps_if (pt_cmpR op_eq (pv 0) pe_int (nomark _))
      (pss_one (ps_ret (pe_f D_drift (hr.mono (by decide)) pass0 (pa_cons (pe_ix ix_list (pv 1) pe_int (fun _ _ => rfl)) (pa_cons (pe_ix ix_list (pv 1) pe_int (fun _ _ => rfl)) (pa_cons (pe_ix ix_list (pv 1) pe_int (fun _ _ => rfl)) pa_nil))))))
      pss_nil)
      (pss_cons (ps_if (pt_cmpR op_eq (pv 0) pe_int (nomark _))
      (pss_one (ps_ret (pe_f D_both (hr.mono (by decide)) pass0 (pa_cons (pe_ix ix_list (pv 1) pe_int (fun _ _ => rfl)) (pa_cons (pe_ix ix_list (pv 1) pe_int (fun _ _ => rfl)) (pa_cons (pe_ix ix_list (pv 1) pe_int (fun _ _ => rfl)) pa_nil))))))
      pss_nil)
      (pss_one (ps_ret (pe_f D_hunks (hr.mono (by decide)) pass0 (pa_cons (pe_ix ix_list (pv 1) pe_int (fun _ _ => rfl)) (pa_cons (pe_ix ix_list (pv 1) pe_int (fun _ _ => rfl)) pa_nil))))))))), ?_⟩
  rcases hc with ⟨e2, hc⟩ | ⟨e3, hc⟩
  · obtain ⟨t, u, rfl⟩ : ∃ t u, ts = [t, u] := by
      match ts, e2 with
      | [t, u], _ => exact ⟨t, u, rfl⟩
    obtain ⟨p, q, h1, h2, h3⟩ := ltx2 hx
    have lt := hl t (by simp)
    have lu := hl u (by simp)
    have lp := patch_len t u
    have z1 := lt.1
    have z2 := lu.1
    have LO : LnOk (Vasedc.patch t u) := fun o ho => Nat.le_trans (patch_lines lt lu o ho) (by decide)
    rcases hc with rfl | rfl | rfl
    · refine ⟨_, rfl, rfl, _, rfl, if_yes rfl ?_⟩
      refine ⟨_, rfl, a, _, _, _, rfl, rfl, .of h1, rfl, _, rfl, a, _, _, _, rfl, rfl, .of h1, rfl, p, q, t, u, rfl, h2, h3, by omega, by omega, fun m H1 s1 hm => ⟨m, _, rfl, hm, by omega, LO, fun r H2 s2 hn2 hr2 => k1 _ rfl r H2 (s1.trans s2) hr2 (s1.free hn2)⟩⟩
    · refine ⟨_, rfl, rfl, _, rfl, if_no rfl ?_⟩
      refine ⟨_, rfl, rfl, _, rfl, if_yes rfl ?_⟩
      exact ⟨_, rfl, a, _, _, _, rfl, rfl, .of h1, rfl, _, rfl, a, _, _, _, rfl, rfl, .of h1, rfl, p, q, t, u, rfl, h2, h3, by omega, by omega, fun m H1 s1 hm => ⟨m, _, rfl, hm, by omega, LO, fun l e r H2 s2 hr2 hn2 => k1 l e r H2 (s1.trans s2) hr2 (s1.free hn2), fun e => RefE.mono s1 (k2 e)⟩⟩
    · refine ⟨_, rfl, rfl, _, rfl, if_no rfl ?_⟩
      refine ⟨_, rfl, rfl, _, rfl, if_no rfl ?_⟩
      refine ⟨_, rfl, rfl, _, rfl, if_no rfl ?_⟩
      refine ⟨_, rfl, rfl, _, rfl, if_no rfl ?_⟩
      exact ⟨_, rfl, a, _, _, _, rfl, rfl, .of h1, rfl, _, rfl, a, _, _, _, rfl, rfl, .of h1, rfl, p, q, t, u, rfl, h2, h3, by omega, by omega, fun r H1 s1 hr1 hn1 => k1 _ rfl r H1 s1 hr1 hn1⟩
  · obtain ⟨t, u, v, rfl⟩ : ∃ t u v, ts = [t, u, v] := by
      match ts, e3 with
      | [t, u, v], _ => exact ⟨t, u, v, rfl⟩
    obtain ⟨p, q, r0, h1, h2, h3, h4⟩ := ltx3 hx
    have lt := hl t (by simp)
    have lu := hl u (by simp)
    have lv := hl v (by simp)
    have z1 := lt.1
    have z2 := lu.1
    have z3 := lv.1
    rcases hc with rfl | rfl
    · refine ⟨_, rfl, rfl, _, rfl, if_no rfl ?_⟩
      refine ⟨_, rfl, rfl, _, rfl, if_no rfl ?_⟩
      refine ⟨_, rfl, rfl, _, rfl, if_yes rfl ?_⟩
      exact ⟨_, rfl, a, _, _, _, rfl, rfl, .of h1, rfl, _, rfl, a, _, _, _, rfl, rfl, .of h1, rfl, _, rfl, a, _, _, _, rfl, rfl, .of h1, rfl, p, q, r0, t, u, v, rfl, h2, h3, h4, by omega, by omega, by omega, fun w hw => drift_ok lt lu lv hw, fun r H1 s1 hr1 hn1 => k1 _ rfl r H1 s1 hr1 hn1⟩
    · refine ⟨_, rfl, rfl, _, rfl, if_no rfl ?_⟩
      refine ⟨_, rfl, rfl, _, rfl, if_no rfl ?_⟩
      refine ⟨_, rfl, rfl, _, rfl, if_no rfl ?_⟩
      refine ⟨_, rfl, rfl, _, rfl, if_yes rfl ?_⟩
      exact ⟨_, rfl, a, _, _, _, rfl, rfl, .of h1, rfl, _, rfl, a, _, _, _, rfl, rfl, .of h1, rfl, _, rfl, a, _, _, _, rfl, rfl, .of h1, rfl, p, q, r0, t, u, v, rfl, h2, h3, h4, by omega, by omega, by omega, fun r H1 s1 hr1 hn1 => k1 _ rfl r H1 s1 hr1 hn1⟩
end
end Lp
end
section
set_option maxHeartbeats 4000000
/-! ### letters in lines: the program's texts, the specification's -/
namespace Lp
open PySem Vaseda VasedBase
open PySem.StrLaws
theorem map_take_eq {x w : Bytes} {n : Nat} : ((x.map UInt8.toNat).take n = w.map UInt8.toNat) ↔ x.take n = w := by
  rw [← List.map_take]
  exact ⟨toNat_inj, fun h => by rw [h]⟩
theorem sub_begins (x w : Bytes) (i : Nat) : Builtin.Str.subAt (sOf x) (sOf w) i = begins w (x.drop i) := by
  rw [subAt_eq, sOf_list, sOf_list, sOf_len]
  unfold begins
  rw [Bool.eq_iff_iff, beq_iff_eq, beq_iff_eq, ← List.map_drop, map_take_eq]
theorem has_in (x w : Bytes) : (!(Builtin.Str.occurrences (sOf x) (sOf w) 0 (sOf x).length 1).isEmpty) = hasIn w x := by
  rw [Bool.eq_iff_iff, found_iff]
  unfold hasIn
  rw [List.any_eq_true]
  constructor
  · rintro ⟨i, h1, h2⟩
    rw [sOf_len, sOf_len] at h1
    rw [sub_begins] at h2
    exact ⟨i, List.mem_range.mpr (by omega), by rw [h2, decide_eq_true h1]; rfl⟩
  · rintro ⟨i, h1, h2⟩
    rw [Bool.and_eq_true] at h2
    exact ⟨i, by rw [sOf_len, sOf_len]; exact of_decide_eq_true h2.2, by rw [sub_begins]; exact h2.1⟩
theorem begins_iff (w x : Bytes) : begins w x = true ↔ x.take w.length = w := beq_iff_eq
theorem repl_swap {a b : Bytes} (ha : a ≠ []) : ∀ (n : Nat) (x : Bytes), x.length < n → replL (a.map UInt8.toNat) (b.map UInt8.toNat) (x.map UInt8.toNat) = (swapBy a b false n x).map UInt8.toNat
  | 0, x, h => by omega
  | n + 1, [], h => by rw [List.map_nil, replL_nil]; rfl
  | n + 1, c :: r, h => by
    have h' : r.length + 1 < n + 1 := h
    have la : 1 ≤ a.length := by cases a with | nil => exact absurd rfl ha | cons _ _ => simp
    have e : swapBy a b false (n + 1) (c :: r) = if begins a (c :: r) = true then b ++ swapBy a b false n ((c :: r).drop a.length) else c :: swapBy a b false n r := rfl
    rw [e]
    by_cases d : begins a (c :: r) = true
    · rw [if_pos d, List.map_append, ← repl_swap ha n ((c :: r).drop a.length) (by rw [List.length_drop, List.length_cons]; omega), List.map_drop]
      rw [List.map_cons, replL_hit (fun z => ha (by simpa using z))]
      · rw [List.length_map]
      · rw [List.length_map, ← List.map_cons]
        exact map_take_eq.mpr ((begins_iff _ _).mp d)
    · rw [if_neg d, List.map_cons, List.map_cons, ← repl_swap ha n r (by omega), replL_miss]
      rw [List.length_map, ← List.map_cons]
      exact fun z => d ((begins_iff _ _).mpr (map_take_eq.mp z))
theorem replace_swap {a b x : Bytes} (ha : a ≠ []) : Txt.replace (sOf x) (sOf a) (sOf b) = sOf (swapIn a b false x) := by
  have la : 1 ≤ (sOf a).length := by rw [sOf_len]; cases a with | nil => exact absurd rfl ha | cons _ _ => simp
  refine str_ext ?_
  rw [replace_list la, sOf_list, sOf_list, sOf_list, sOf_list]
  exact repl_swap ha _ x (Nat.lt_succ_self _)
/-- the first alone -/
theorem once_none {a b : Bytes} : ∀ (n : Nat) (x : Bytes), x.length < n → (∀ i, begins a (x.drop i) = true → ¬ i + a.length ≤ x.length) → a ≠ [] → swapBy a b true n x = x
  | 0, x, h, _, _ => by omega
  | n + 1, [], h, _, _ => rfl
  | n + 1, c :: r, h, hn, ha => by
    have h' : r.length + 1 < n + 1 := h
    have e : swapBy a b true (n + 1) (c :: r) = if begins a (c :: r) = true then b ++ (c :: r).drop a.length else c :: swapBy a b true n r := rfl
    have d : ¬ begins a (c :: r) = true := fun z => by
      refine hn 0 z ?_
      have := congrArg List.length ((begins_iff _ _).mp z)
      rw [List.length_take] at this
      omega
    rw [e, if_neg d, once_none n r (by omega) (fun i hi hl => hn (i + 1) hi (by rw [List.length_cons]; omega)) ha]
theorem once_hit {a b : Bytes} : ∀ (n : Nat) (x : Bytes) (i : Nat), x.length < n → begins a (x.drop i) = true → i + a.length ≤ x.length → (∀ k, k < i → ¬ (begins a (x.drop k) = true)) → a ≠ [] → swapBy a b true n x = x.take i ++ (b ++ x.drop (i + a.length))
  | 0, x, i, h, _, _, _, _ => by omega
  | n + 1, [], i, h, _, hl, _, ha => by
    have la : 1 ≤ a.length := by cases a with | nil => exact absurd rfl ha | cons _ _ => simp
    have hl : i + a.length ≤ 0 := hl
    omega
  | n + 1, c :: r, i, h, hb, hl, hn, ha => by
    have h' : r.length + 1 < n + 1 := h
    have e : swapBy a b true (n + 1) (c :: r) = if begins a (c :: r) = true then b ++ (c :: r).drop a.length else c :: swapBy a b true n r := rfl
    cases i with
    | zero =>
      have hb : begins a (c :: r) = true := hb
      rw [e, if_pos hb, List.take_zero, List.nil_append, Nat.zero_add]
    | succ i =>
      have hn0 : ¬ begins a (c :: r) = true := hn 0 (by omega)
      rw [e, if_neg hn0, once_hit n r i (by omega) hb (by rw [List.length_cons] at hl; omega) (fun k hk => hn (k + 1) (by omega)) ha]
      rw [List.take_succ_cons, show i + 1 + a.length = (i + a.length) + 1 from by omega, List.drop_succ_cons]
      rfl
/-- x.replace(y, z, 1) -/
def rep1 (x y z : Str) : Str := if (Builtin.Str.occurrences x y 0 x.length 1).isEmpty = true then x else Builtin.Str.glued z (Builtin.Str.partsBetween x (Builtin.Str.occurrences x y 0 x.length 1) y.length)
theorem rep1_swap {a b x : Bytes} (ha : a ≠ []) : rep1 (sOf x) (sOf a) (sOf b) = sOf (swapIn a b true x) := by
  have lo := occ_length_le (sOf x) (sOf a) 0 (sOf x).length 1
  unfold rep1
  rcases occ_head (sOf x) (sOf a) 1 (Nat.le_refl _) with ⟨h0, hn⟩ | ⟨i, r, h0, hA, hn⟩
  · rw [h0]
    rw [if_pos (show (([] : List Nat)).isEmpty = true from rfl)]
    congr 1
    refine (once_none _ x (Nat.lt_succ_self _) (fun i hb hl => hn i ⟨by rw [sOf_len, sOf_len]; exact hl, by rw [sub_begins]; exact hb⟩) ha).symm
  · rw [h0] at lo ⊢
    have hr : r = [] := by
      cases r with
      | nil => rfl
      | cons _ _ => simp at lo
    subst hr
    rw [if_neg (show ¬ (([i] : List Nat)).isEmpty = true from Bool.false_ne_true), partsBetween_eq]
    have h1 := hA.1
    rw [sOf_len, sOf_len] at h1
    have h2 := hA.2
    rw [sub_begins] at h2
    refine str_ext ?_
    show (Builtin.Str.glued (sOf b) [Builtin.Str.strSub (sOf x) 0 i, Builtin.Str.strSub (sOf x) (i + (sOf a).length) (sOf x).length]).cps.toList = _
    rw [glued_list]
    show (Builtin.Str.strSub (sOf x) 0 i).cps.toList ++ ((sOf b).cps.toList ++ ((Builtin.Str.strSub (sOf x) (i + (sOf a).length) (sOf x).length).cps.toList ++ [])) = _
    rw [strSub_toList, strSub_toList, sOf_list, sOf_list, sOf_list, List.append_nil, sOf_len, sOf_len]
    have e := once_hit (a := a) (b := b) (x.length + 1) x i (Nat.lt_succ_self _) h2 h1 (fun k hk hb => hn k hk ⟨by rw [sOf_len, sOf_len]; omega, by rw [sub_begins]; exact hb⟩) ha
    unfold swapIn
    rw [e, List.map_append, List.map_append, List.map_take, List.map_drop, List.drop_zero, Nat.sub_zero]
    congr 2
    exact List.take_of_length_le (by rw [List.length_drop, List.length_map]; omega)
/-! ### a line gone over: the program's way -/
/-- what comes of a line -/
def outsW (w : Vaseda.Work) : Text := w.pre.map (·.x) ++ ((if w.gone = true then [] else [w.x]) ++ w.post.map (·.x))
theorem outs_eq (k : Nat) (w : Vaseda.Work) : (outOf k w).map (·.x) = outsW w := by
  unfold outOf outsW
  rw [List.map_append, List.map_append]
  cases w.gone <;> rfl
/-- the lines that come, none if it's too much -/
def runL (s : Script) : Nat → Line → Text → Text → Option Text
  | _, _, acc, [] => some acc
  | k, held, acc, x :: r => if (lineRun s k r.isEmpty x held).bad = true then none else if 60 < (acc ++ outsW (lineRun s k r.isEmpty x held)).length then none else runL s (k + 1) (lineRun s k r.isEmpty x held).held (acc ++ outsW (lineRun s k r.isEmpty x held)) r
theorem runL_spec (s : Script) : ∀ (t : Text) (k : Nat) (held : Line) (acc : Text), acc.length ≤ 60 →
    runL s k held acc t = if (worksBy s k held t).any (fun w => w.bad) = true ∨ 60 < (acc ++ (worksBy s k held t).flatMap outsW).length then none else some (acc ++ (worksBy s k held t).flatMap outsW)
  | [], k, held, acc, ha => by
    show some acc = if ([] : List Vaseda.Work).any _ = true ∨ 60 < (acc ++ []).length then none else some (acc ++ [])
    rw [List.append_nil, if_neg]
    rintro (h | h)
    · cases h
    · omega
  | x :: r, k, held, acc, ha => by
    have e : worksBy s k held (x :: r) = lineRun s k r.isEmpty x held :: worksBy s (k + 1) (lineRun s k r.isEmpty x held).held r := rfl
    rw [e]
    generalize hw : lineRun s k r.isEmpty x held = w
    have e2 : runL s k held acc (x :: r) = if w.bad = true then none else if 60 < (acc ++ outsW w).length then none else runL s (k + 1) w.held (acc ++ outsW w) r := by rw [← hw]; rfl
    rw [e2, List.any_cons, List.flatMap_cons]
    by_cases b : w.bad = true
    · rw [if_pos b, if_pos (.inl (by rw [b]; rfl))]
    · rw [if_neg b]
      have b' : w.bad = false := by simpa using b
      by_cases l : 60 < (acc ++ outsW w).length
      · rw [if_pos l, if_pos]
        right
        rw [← List.append_assoc, List.length_append]
        omega
      · rw [if_neg l, runL_spec s r (k + 1) w.held (acc ++ outsW w) (by omega), b', Bool.false_or, List.append_assoc]
theorem zip_outs : ∀ (ws : List Vaseda.Work) (n : Nat), ((ws.zipIdx n).flatMap fun w => outOf (w.2 + 1) w.1).map (·.x) = ws.flatMap outsW
  | [], _ => rfl
  | w :: ws, n => by
    rw [List.zipIdx_cons, List.flatMap_cons, List.flatMap_cons, List.map_append, outs_eq, zip_outs ws]
theorem run_loop (s : Script) (t : Text) : (Vaseda.run s t).map outText = runL s 1 [] [] t := by
  rw [runL_spec s t 1 [] [] (by simp), List.nil_append]
  have e := zip_outs (works s t) 0
  have el := congrArg List.length e
  rw [List.length_map] at el
  have ew : works s t = worksBy s 1 [] t := rfl
  unfold Vaseda.run
  show Option.map outText (if (works s t).any (fun w => w.bad) = true ∨ OUTS < ((works s t).zipIdx.flatMap fun w => outOf (w.2 + 1) w.1).length then none else some ⟨(works s t).zipIdx.flatMap fun w => outOf (w.2 + 1) w.1, _⟩) = _
  rw [el, ew]
  by_cases c : (worksBy s 1 [] t).any (fun w => w.bad) = true ∨ 60 < ((worksBy s 1 [] t).flatMap outsW).length
  · have c2 : (worksBy s 1 [] t).any (fun w => w.bad) = true ∨ OUTS < ((worksBy s 1 [] t).flatMap outsW).length := c
    rw [if_pos c2, if_pos c]
    rfl
  · have c2 : ¬ ((worksBy s 1 [] t).any (fun w => w.bad) = true ∨ OUTS < ((worksBy s 1 [] t).flatMap outsW).length) := c
    rw [if_neg c2, if_neg c]
    show some (((works s t).zipIdx.flatMap fun w => outOf (w.2 + 1) w.1).map fun o => o.x) = _
    rw [e, ew]
/-- the spec's Work after some commands -/
def stepsW (k : Nat) (last : Bool) (w : Vaseda.Work) (cs : List (Cmd × Nat)) : Vaseda.Work := cs.foldl (Vaseda.work k last) w
theorem bad_stays (k : Nat) (last : Bool) : ∀ (cs : List (Cmd × Nat)) (w : Vaseda.Work), w.bad = true → (cs.foldl (Vaseda.work k last) w).bad = true
  | [], w, h => h
  | c :: cs, w, h => by
    rw [List.foldl_cons]
    refine bad_stays k last cs _ ?_
    unfold Vaseda.work
    rw [if_pos (by rw [h, Bool.or_true])]
    exact h
end Lp
end
section
set_option maxHeartbeats 4000000
/-! ### runs: objects, addresses -/
namespace Lp
open PySem PySem.Spec PyProof.Rows L2
open PySem.W (Frag)
open VasedBase (Bytes word)
open Vaseda (Line Text Cmd Deed)
/-- a heap with some objects hidden -/
def hidS (S : List Addr) (H : Hp) : Hp := fun a => if a ∈ S then none else H a
theorem hidS_upd {S : List Addr} {a : Addr} {H : Hp} {o : HO} (h : a ∈ S) : hidS S (upd H a o) = hidS S H := by
  funext b
  unfold hidS
  by_cases hb : b ∈ S
  · rw [if_pos hb, if_pos hb]
  · rw [if_neg hb, if_neg hb, upd_ne (fun z => hb (by rw [z]; exact h))]
theorem hidS_same (S : List Addr) (H : Hp) : Same (hidS S H) H := fun a o e => by
  unfold hidS at e
  by_cases h : a ∈ S
  · rw [if_pos h] at e; cases e
  · rw [if_neg h] at e; exact e
theorem hidS_mono {S : List Addr} {H H' : Hp} (s : Same H H') : Same (hidS S H) (hidS S H') := fun a o e => by
  unfold hidS at e ⊢
  by_cases h : a ∈ S
  · rw [if_pos h] at e; cases e
  · rw [if_neg h] at e ⊢; exact s _ _ e
theorem hidS_get {S : List Addr} {a : Addr} {H : Hp} {o : HO} (n : a ∉ S) (e : H a = some o) : hidS S H a = some o := by
  unfold hidS
  rw [if_neg n]
  exact e
theorem hidS_out {S : List Addr} {a : Addr} {H : Hp} {o : HO} (e : hidS S H a = some o) : a ∉ S ∧ H a = some o := by
  unfold hidS at e
  by_cases h : a ∈ S
  · rw [if_pos h] at e; cases e
  · rw [if_neg h] at e; exact ⟨h, e⟩
/-- all but some stand as they did -/
abbrev FrS (S : List Addr) (H H' : Hp) : Prop := Same (hidS S H) (hidS S H')
theorem FrS.upd {S : List Addr} {a : Addr} {H H' : Hp} {o : HO} (f : FrS S H H') (h : a ∈ S) : FrS S H (upd H' a o) := by
  unfold FrS
  rw [hidS_upd h]
  exact f
theorem FrS.new {S : List Addr} {H H' H2 : Hp} (f : FrS S H H') (s : Same H' H2) : FrS S H H2 := f.trans (hidS_mono s)
theorem FrS.refl (S : List Addr) (H : Hp) : FrS S H H := Same.refl _
theorem FrS.get {S : List Addr} {H H' : Hp} {a : Addr} {o : HO} (f : FrS S H H') (n : a ∉ S) (e : H a = some o) : H' a = some o := hidS_same S H' _ _ (f _ _ (hidS_get n e))
section
variable {P : Program} {w : World} {K : Frag} {mg : Str → Option Value} {base : Heap}
abbrev s_Work_init : Stmt := inClass (topS 81) 0
theorem sc_Work_init : FnScope ["self", "letters", "number", "is_last"] ["self", "letters", "number", "is_last"] (defScope s_Work_init) := ⟨rfl, rfl, rfl, by decide +kernel, rfl, by decide +kernel, by decide +kernel⟩
def spNewWork (K : Frag) : Sp := fun vs H Q _ => ∃ (x dx : Addr) (v1 v2 v3 : V), vs = [.ref x, v1, v2, v3] ∧ H x = some (.ins (cA K "Work") dx []) ∧ ∀ p0 p1 H', H p0 = none → p0 ≠ x → H p1 = none → p1 ≠ x → p0 ≠ p1 → Sbut x H H' → H' p0 = some (.lst []) → H' p1 = some (.lst []) →
  H' x = some (.ins (cA K "Work") dx (F_Work v1 v2 v3 (.ref p0) (.ref p1) (.bl false) (.int 0) (.bl false))) → Q .non H'
theorem ok_new_Work (A : FnCl K mg "Work" (cA K "Work") "Work.__init__" s_Work_init ["self", "letters", "number", "is_last"]) (T : Txt K mg) : Dc P w K mg base 1 "Work" (cA K "Work") ["self", "letters", "number", "is_last"] (spNewWork K) := A.dc fun f fd F => by
  refine ok0 F sc_Work_init (fun vs H Q E h => ?_) (fun cdv A outer s H vs Q E hr h => ?_)
  · obtain ⟨x, dx, v1, v2, v3, rfl, _⟩ := h
    rfl
  obtain ⟨x, dx, v1, v2, v3, rfl, hx, k⟩ := h
  refine ⟨_, (pss_cons (ps_fld (pv 0) (pv 1) rfl)
      (pss_cons (ps_fld (pv 0) (pv 2) rfl)
      (pss_cons (ps_fld (pv 0) (pv 3) rfl)
      (pss_cons (ps_fld (pv 0) (pe_lst pa_nil) rfl)
      (pss_cons (ps_fld (pv 0) (pe_lst pa_nil) rfl)
      (pss_cons (ps_fld (pv 0) pe_bl rfl)
      (pss_cons (ps_fld (pv 0) pe_int rfl)
      (pss_one (ps_fld (pv 0) pe_bl rfl))))))))), ?_⟩
  refine ⟨_, rfl, _, rfl, x, _, dx, _, rfl, hx, T.cl_Work, T.na_Work_letters, (by decide), ?_⟩
  refine ⟨_, rfl, _, rfl, x, _, dx, _, rfl, upd_same, T.cl_Work, T.na_Work_number, putF_lt (by decide), ?_⟩
  refine ⟨_, rfl, _, rfl, x, _, dx, _, rfl, upd_same, T.cl_Work, T.na_Work_is_last, putF_lt (putF_lt (by decide)), ?_⟩
  refine ⟨by show 0 ≤ sizeLine; decide, fun p0 h0 => ?_⟩
  have n0 : x ≠ p0 := fun z => by rw [← z, upd_same] at h0; cases h0
  refine ⟨_, rfl, x, _, dx, _, rfl, by rw [upd_ne n0]; exact upd_same, T.cl_Work, T.na_Work_put_ahead, putF_lt (putF_lt (putF_lt (by decide))), ?_⟩
  refine ⟨by show 0 ≤ sizeLine; decide, fun p1 h1 => ?_⟩
  have n1 : x ≠ p1 := fun z => by rw [← z, upd_same] at h1; cases h1
  have n01 : p0 ≠ p1 := fun z => by rw [← z, upd_ne (Ne.symm n0), upd_same] at h1; cases h1
  refine ⟨_, rfl, x, _, dx, _, rfl, by rw [upd_ne n1]; exact upd_same, T.cl_Work, T.na_Work_put_behind, putF_lt (putF_lt (putF_lt (putF_lt (by decide)))), ?_⟩
  refine ⟨_, rfl, x, _, dx, _, rfl, upd_same, T.cl_Work, T.na_Work_is_deleted, putF_lt (putF_lt (putF_lt (putF_lt (putF_lt (by decide))))), ?_⟩
  refine ⟨_, rfl, x, _, dx, _, rfl, upd_same, T.cl_Work, T.na_Work_left_out, putF_lt (putF_lt (putF_lt (putF_lt (putF_lt (putF_lt (by decide)))))), ?_⟩
  refine ⟨_, rfl, x, _, dx, _, rfl, upd_same, T.cl_Work, T.na_Work_is_done, putF_lt (putF_lt (putF_lt (putF_lt (putF_lt (putF_lt (putF_lt (by decide))))))), ?_⟩
  have e0 : H p0 = none := by
    rw [upd_ne (Ne.symm n0), upd_ne (Ne.symm n0), upd_ne (Ne.symm n0)] at h0
    exact h0
  have e1 : H p1 = none := by
    rw [upd_ne (Ne.symm n1), upd_ne (Ne.symm n01), upd_ne (Ne.symm n1), upd_ne (Ne.symm n1), upd_ne (Ne.symm n1)] at h1
    exact h1
  refine k p0 p1 _ e0 (Ne.symm n0) e1 (Ne.symm n1) n01 ?_ ?_ ?_ (by rw [upd_same, new_Work])
  · intro a o e n
    have a0 : a ≠ p0 := fun z => by rw [z, e0] at e; cases e
    have a1 : a ≠ p1 := fun z => by rw [z, e1] at e; cases e
    rw [upd_ne n, upd_ne n, upd_ne n, upd_ne n, upd_ne a1, upd_ne n, upd_ne a0, upd_ne n, upd_ne n, upd_ne n]
    exact e
  · rw [upd_ne (Ne.symm n0), upd_ne (Ne.symm n0), upd_ne (Ne.symm n0), upd_ne (Ne.symm n0), upd_ne n01, upd_ne (Ne.symm n0), upd_same]
  · rw [upd_ne (Ne.symm n1), upd_ne (Ne.symm n1), upd_ne (Ne.symm n1), upd_ne (Ne.symm n1), upd_same]
abbrev s_Run_init : Stmt := inClass (topS 82) 0
theorem sc_Run_init : FnScope ["self", "commands"] ["self", "commands"] (defScope s_Run_init) := ⟨rfl, rfl, rfl, by decide +kernel, rfl, by decide +kernel, by decide +kernel⟩
def spNewRun (K : Frag) : Sp := fun vs H Q _ => ∃ (x dx : Addr) (v1 : V), vs = [.ref x, v1] ∧ H x = some (.ins (cA K "Run") dx []) ∧ ∀ p0 H', H p0 = none → p0 ≠ x → Sbut x H H' → H' p0 = some (.lst []) →
  H' x = some (.ins (cA K "Run") dx (F_Run v1 (.str "") (.ref p0))) → Q .non H'
theorem ok_new_Run (A : FnCl K mg "Run" (cA K "Run") "Run.__init__" s_Run_init ["self", "commands"]) (T : Txt K mg) : Dc P w K mg base 1 "Run" (cA K "Run") ["self", "commands"] (spNewRun K) := A.dc fun f fd F => by
  refine ok0 F sc_Run_init (fun vs H Q E h => ?_) (fun cdv A outer s H vs Q E hr h => ?_)
  · obtain ⟨x, dx, v1, rfl, _⟩ := h
    rfl
  obtain ⟨x, dx, v1, rfl, hx, k⟩ := h
  refine ⟨_, (pss_cons (ps_fld (pv 0) (pv 1) rfl)
      (pss_cons (ps_fld (pv 0) pe_str rfl)
      (pss_one (ps_fld (pv 0) (pe_lst pa_nil) rfl)))), ?_⟩
  refine ⟨_, rfl, _, rfl, x, _, dx, _, rfl, hx, T.cl_Run, T.na_Run_commands, (by decide), ?_⟩
  refine ⟨_, rfl, x, _, dx, _, rfl, upd_same, T.cl_Run, T.na_Run_held, putF_lt (by decide), ?_⟩
  refine ⟨by show 0 ≤ sizeLine; decide, fun p0 h0 => ?_⟩
  have n0 : x ≠ p0 := fun z => by rw [← z, upd_same] at h0; cases h0
  refine ⟨_, rfl, x, _, dx, _, rfl, by rw [upd_ne n0]; exact upd_same, T.cl_Run, T.na_Run_came, putF_lt (putF_lt (by decide)), ?_⟩
  have e0 : H p0 = none := by
    rw [upd_ne (Ne.symm n0), upd_ne (Ne.symm n0)] at h0
    exact h0
  refine k p0 _ e0 (Ne.symm n0) ?_ ?_ (by rw [upd_same, new_Run])
  · intro a o e n
    have a0 : a ≠ p0 := fun z => by rw [z, e0] at e; cases e
    rw [upd_ne n, upd_ne a0, upd_ne n, upd_ne n]
    exact e
  · rw [upd_ne (Ne.symm n0), upd_same]
/-! addresses -/
def adBase : Vaseda.Addr → Bytes × Bytes × Nat × Nat
  | .all => (word "all", [], 0, 0)
  | .line n => (word "from", [], n, n)
  | .span a b => (word "from", [], a, b)
  | .last => (word "last", [], 0, 0)
  | .has w => (word "has", w, 0, 0)
  | .is_ w => (word "is", w, 0, 0)
  | .not a => adBase a
def adNots : Vaseda.Addr → Nat
  | .not a => adNots a + 1
  | _ => 0
def adCore : Vaseda.Addr → Vaseda.Addr
  | .not a => adCore a
  | a => a
def AdAt (K : Frag) (H : Hp) (a : Addr) (ad : Vaseda.Addr) : Prop := ∃ dx, H a = some (.ins (cA K "Address") dx (F_Address (vS (adBase ad).1) (vS (adBase ad).2.1) (.int ((adBase ad).2.2.1 : Nat)) (.int ((adBase ad).2.2.2 : Nat)) (.int (adNots ad : Nat))))
theorem AdAt.mono {H H' : Hp} {a : Addr} {ad : Vaseda.Addr} (s : Same H H') : AdAt K H a ad → AdAt K H' a ad := fun ⟨dx, h⟩ => ⟨dx, s _ _ h⟩
theorem core_base : ∀ ad : Vaseda.Addr, adBase (adCore ad) = adBase ad
  | .not a => core_base a
  | .all => rfl
  | .line _ => rfl
  | .span _ _ => rfl
  | .last => rfl
  | .has _ => rfl
  | .is_ _ => rfl
theorem core_not : ∀ (ad b : Vaseda.Addr), adCore ad ≠ .not b
  | .not a, b => core_not a b
  | .all, _ => fun h => by cases h
  | .line _, _ => fun h => by cases h
  | .span _ _, _ => fun h => by cases h
  | .last, _ => fun h => by cases h
  | .has _, _ => fun h => by cases h
  | .is_ _, _ => fun h => by cases h
theorem holds_not (k : Nat) (last : Bool) (x : Line) : ∀ ad : Vaseda.Addr, Vaseda.holds k last x ad = (Vaseda.holds k last x (adCore ad) != decide (adNots ad % 2 = 1))
  | .not a => by
    show (!Vaseda.holds k last x a) = (Vaseda.holds k last x (adCore a) != decide ((adNots a + 1) % 2 = 1))
    rw [holds_not k last x a]
    have e : decide ((adNots a + 1) % 2 = 1) = !decide (adNots a % 2 = 1) := by
      rw [Bool.eq_iff_iff, decide_eq_true_iff, Bool.not_eq_true', decide_eq_false_iff_not]
      omega
    rw [e]
    cases Vaseda.holds k last x (adCore a) <;> cases decide (adNots a % 2 = 1) <;> rfl
  | .all => by simp [adNots, adCore]
  | .line _ => by simp [adNots, adCore]
  | .span _ _ => by simp [adNots, adCore]
  | .last => by simp [adNots, adCore]
  | .has _ => by simp [adNots, adCore]
  | .is_ _ => by simp [adNots, adCore]
abbrev s_Work_holds_plain : Stmt := inClass (topS 81) 3
theorem sc_Work_holds_plain : FnScope ["self", "address"] ["self", "address"] (defScope s_Work_holds_plain) := ⟨rfl, rfl, rfl, by decide +kernel, rfl, by decide +kernel, by decide +kernel⟩
def spHoldsP (K : Frag) : Sp := fun vs H Q _ => ∃ (wk dw ad : Addr) (x : Line) (k : Nat) (last : Bool) (v4 v5 v6 v7 v8 : V) (a : Vaseda.Addr), vs = [.ref wk, .ref ad] ∧ H wk = some (.ins (cA K "Work") dw (F_Work (vS x) (.int (k : Nat)) (.bl last) v4 v5 v6 v7 v8)) ∧ AdAt K H ad a ∧ Q (.bl (Vaseda.holds k last x (adCore a))) H
theorem wq (a b : String) (h : word a = word b) : (vS (word a) = vS (word b)) := by rw [h]
theorem ok_holds_plain (A : FnMt K (cA K "Work") "holds_plain" "Work.holds_plain" s_Work_holds_plain ["self", "address"]) (T : Txt K mg) : Dm P w K mg base CX0 1 (cA K "Work") "holds_plain" ["self", "address"] (spHoldsP K) := A.dm fun f fd F => by
  refine ok0 F sc_Work_holds_plain (fun vs H Q E h => ?_) (fun cdv A outer s H vs Q E hr h => ?_)
  · obtain ⟨_, _, _, _, _, _, _, _, _, _, _, _, rfl, _⟩ := h
    rfl
  obtain ⟨wk, dw, ad, x, k, last, v4, v5, v6, v7, v8, a, rfl, hw, ⟨dx, ha⟩, q⟩ := h
  refine ⟨_, (pss_cons (ps_if (pt_cmpR op_eq (pe_fld (pv 1) rfl) pe_str (nomark _))
      (pss_one (ps_ret (pe_chain op_le op_le (pe_fld (pv 1) rfl) (pe_fld (pv 0) rfl) (pe_fld (pv 1) rfl))))
      pss_nil)
      (pss_cons (ps_if (pt_cmpR op_eq (pe_fld (pv 1) rfl) pe_str (nomark _))
      (pss_one (ps_ret (pe_fld (pv 0) rfl)))
      pss_nil)
      (pss_cons (ps_if (pt_cmpR op_eq (pe_fld (pv 1) rfl) pe_str (nomark _))
      (pss_one (ps_ret (pe_cmpR op_in_str (pe_fld (pv 1) rfl) (pe_fld (pv 0) rfl) (by rfl))))
      pss_nil)
      (pss_cons (ps_if (pt_cmpR op_eq (pe_fld (pv 1) rfl) pe_str (nomark _))
      (pss_one (ps_ret (pe_cmpR op_eq (pe_fld (pv 1) rfl) (pe_fld (pv 0) rfl) (nomark _))))
      pss_nil)
      (pss_one (ps_ret pe_bl)))))), ?_⟩
  have hb := core_base a
  have hn := core_not a
  generalize adCore a = c at hb hn q
  rw [← hb] at ha
  clear hb
  have no : ∀ (b : Bool) (A B : Prop), b = false → B → if b = true then A else B := fun b A B h => if_no h
  cases c with
  | not b => exact absurd rfl (hn b)
  | line n =>
    refine ⟨_, rfl, ad, _, dx, _, _, rfl, ha, T.cl_Address, T.na_Address_word, lk_Address_word, rfl, _, rfl, if_yes (show decide (vS (word "from") = V.str (Str.ofString "from")) = true by decide +kernel) ?_⟩
    refine ⟨_, rfl, ad, _, dx, _, _, rfl, ha, T.cl_Address, T.na_Address_low, lk_Address_low, _, rfl, wk, _, dw, _, _, rfl, hw, T.cl_Work, T.na_Work_number, lk_Work_number, _, _, rfl, rfl, _, rfl, if_of (fun c => ?_) (fun c => ?_)⟩
    · have c := of_decide_eq_true c
      refine ⟨_, rfl, ad, _, dx, _, _, rfl, ha, T.cl_Address, T.na_Address_high, lk_Address_high, _, _, rfl, rfl, ?_⟩
      have e : Vaseda.holds k last x (.line n) = decide ((k : Int) ≤ (n : Int)) := by
        show (k == n) = _
        rw [Bool.eq_iff_iff, beq_iff_eq, decide_eq_true_iff]
        have c : (n : Int) ≤ (k : Int) := c
        omega
      rw [e] at q
      exact q
    · have c := of_decide_eq_false c
      have e : Vaseda.holds k last x (.line n) = false := by
        show (k == n) = false
        have c : ¬ (n : Int) ≤ (k : Int) := c
        rw [beq_eq_false_iff_ne]
        omega
      rw [e] at q
      exact q
  | span i j =>
    refine ⟨_, rfl, ad, _, dx, _, _, rfl, ha, T.cl_Address, T.na_Address_word, lk_Address_word, rfl, _, rfl, if_yes (show decide (vS (word "from") = V.str (Str.ofString "from")) = true by decide +kernel) ?_⟩
    refine ⟨_, rfl, ad, _, dx, _, _, rfl, ha, T.cl_Address, T.na_Address_low, lk_Address_low, _, rfl, wk, _, dw, _, _, rfl, hw, T.cl_Work, T.na_Work_number, lk_Work_number, _, _, rfl, rfl, _, rfl, if_of (fun c => ?_) (fun c => ?_)⟩
    · have c := of_decide_eq_true c
      refine ⟨_, rfl, ad, _, dx, _, _, rfl, ha, T.cl_Address, T.na_Address_high, lk_Address_high, _, _, rfl, rfl, ?_⟩
      have e : Vaseda.holds k last x (.span i j) = decide ((k : Int) ≤ (j : Int)) := by
        show decide (i ≤ k ∧ k ≤ j) = _
        rw [Bool.eq_iff_iff, decide_eq_true_iff, decide_eq_true_iff]
        have c : (i : Int) ≤ (k : Int) := c
        omega
      rw [e] at q
      exact q
    · have c := of_decide_eq_false c
      have e : Vaseda.holds k last x (.span i j) = false := by
        show decide (i ≤ k ∧ k ≤ j) = false
        have c : ¬ (i : Int) ≤ (k : Int) := c
        rw [decide_eq_false_iff_not]
        omega
      rw [e] at q
      exact q
  | last =>
    refine ⟨_, rfl, ad, _, dx, _, _, rfl, ha, T.cl_Address, T.na_Address_word, lk_Address_word, rfl, _, rfl, if_no (show decide (vS (word "last") = V.str (Str.ofString "from")) = false by decide +kernel) ?_⟩
    refine ⟨_, rfl, ad, _, dx, _, _, rfl, ha, T.cl_Address, T.na_Address_word, lk_Address_word, rfl, _, rfl, if_yes (show decide (vS (word "last") = V.str (Str.ofString "last")) = true by decide +kernel) ?_⟩
    exact ⟨_, rfl, wk, _, dw, _, _, rfl, hw, T.cl_Work, T.na_Work_is_last, lk_Work_is_last, q⟩
  | has y =>
    refine ⟨_, rfl, ad, _, dx, _, _, rfl, ha, T.cl_Address, T.na_Address_word, lk_Address_word, rfl, _, rfl, if_no (show decide (vS (word "has") = V.str (Str.ofString "from")) = false by decide +kernel) ?_⟩
    refine ⟨_, rfl, ad, _, dx, _, _, rfl, ha, T.cl_Address, T.na_Address_word, lk_Address_word, rfl, _, rfl, if_no (show decide (vS (word "has") = V.str (Str.ofString "last")) = false by decide +kernel) ?_⟩
    refine ⟨_, rfl, ad, _, dx, _, _, rfl, ha, T.cl_Address, T.na_Address_word, lk_Address_word, rfl, _, rfl, if_yes (show decide (vS (word "has") = V.str (Str.ofString "has")) = true by decide +kernel) ?_⟩
    refine ⟨_, rfl, ad, _, dx, _, _, rfl, ha, T.cl_Address, T.na_Address_letters, lk_Address_letters, _, rfl, wk, _, dw, _, _, rfl, hw, T.cl_Work, T.na_Work_letters, lk_Work_letters, _, _, rfl, rfl, ?_⟩
    have e : Vaseda.holds k last x (.has y) = Vaseda.hasIn y x := rfl
    rw [e, ← has_in] at q
    exact q
  | is_ y =>
    refine ⟨_, rfl, ad, _, dx, _, _, rfl, ha, T.cl_Address, T.na_Address_word, lk_Address_word, rfl, _, rfl, if_no (show decide (vS (word "is") = V.str (Str.ofString "from")) = false by decide +kernel) ?_⟩
    refine ⟨_, rfl, ad, _, dx, _, _, rfl, ha, T.cl_Address, T.na_Address_word, lk_Address_word, rfl, _, rfl, if_no (show decide (vS (word "is") = V.str (Str.ofString "last")) = false by decide +kernel) ?_⟩
    refine ⟨_, rfl, ad, _, dx, _, _, rfl, ha, T.cl_Address, T.na_Address_word, lk_Address_word, rfl, _, rfl, if_no (show decide (vS (word "is") = V.str (Str.ofString "has")) = false by decide +kernel) ?_⟩
    refine ⟨_, rfl, ad, _, dx, _, _, rfl, ha, T.cl_Address, T.na_Address_word, lk_Address_word, rfl, _, rfl, if_yes (show decide (vS (word "is") = V.str (Str.ofString "is")) = true by decide +kernel) ?_⟩
    refine ⟨_, rfl, ad, _, dx, _, _, rfl, ha, T.cl_Address, T.na_Address_letters, lk_Address_letters, _, rfl, wk, _, dw, _, _, rfl, hw, T.cl_Work, T.na_Work_letters, lk_Work_letters, rfl, ?_⟩
    have e : Vaseda.holds k last x (.is_ y) = decide (vS y = vS x) := by
      rw [vS_eq]
      show (x == y) = _
      rw [Bool.eq_iff_iff, beq_iff_eq, decide_eq_true_iff]
      exact ⟨Eq.symm, Eq.symm⟩
    rw [e] at q
    exact q
  | all =>
    refine ⟨_, rfl, ad, _, dx, _, _, rfl, ha, T.cl_Address, T.na_Address_word, lk_Address_word, rfl, _, rfl, if_no (show decide (vS (word "all") = V.str (Str.ofString "from")) = false by decide +kernel) ?_⟩
    refine ⟨_, rfl, ad, _, dx, _, _, rfl, ha, T.cl_Address, T.na_Address_word, lk_Address_word, rfl, _, rfl, if_no (show decide (vS (word "all") = V.str (Str.ofString "last")) = false by decide +kernel) ?_⟩
    refine ⟨_, rfl, ad, _, dx, _, _, rfl, ha, T.cl_Address, T.na_Address_word, lk_Address_word, rfl, _, rfl, if_no (show decide (vS (word "all") = V.str (Str.ofString "has")) = false by decide +kernel) ?_⟩
    refine ⟨_, rfl, ad, _, dx, _, _, rfl, ha, T.cl_Address, T.na_Address_word, lk_Address_word, rfl, _, rfl, if_no (show decide (vS (word "all") = V.str (Str.ofString "is")) = false by decide +kernel) ?_⟩
    exact q
abbrev s_Work_holds : Stmt := inClass (topS 81) 2
theorem sc_Work_holds : FnScope ["self", "address"] ["self", "address"] (defScope s_Work_holds) := ⟨rfl, rfl, rfl, by decide +kernel, rfl, by decide +kernel, by decide +kernel⟩
def spHolds (K : Frag) : Sp := fun vs H Q _ => ∃ (wk dw ad : Addr) (x : Line) (k : Nat) (last : Bool) (v4 v5 v6 v7 v8 : V) (a : Vaseda.Addr), vs = [.ref wk, .ref ad] ∧ H wk = some (.ins (cA K "Work") dw (F_Work (vS x) (.int (k : Nat)) (.bl last) v4 v5 v6 v7 v8)) ∧ AdAt K H ad a ∧ Q (.bl (Vaseda.holds k last x a)) H
theorem ok_holds (A : FnMt K (cA K "Work") "holds" "Work.holds" s_Work_holds ["self", "address"]) (T : Txt K mg) (D_Work_holds_plain : Dm P w K mg base CX0 1 (cA K "Work") "holds_plain" ["self", "address"] (spHoldsP K)) : Dm P w K mg base CX0 2 (cA K "Work") "holds" ["self", "address"] (spHolds K) := A.dm fun f fd F => by
  refine ok0 F sc_Work_holds (fun vs H Q E h => ?_) (fun cdv A outer s H vs Q E hr h => ?_)
  · obtain ⟨_, _, _, _, _, _, _, _, _, _, _, _, rfl, _⟩ := h
    rfl
  obtain ⟨wk, dw, ad, x, k, last, v4, v5, v6, v7, v8, a, rfl, hw, ha, q⟩ := h
  obtain ⟨dx, ha0⟩ := id ha
  refine ⟨_, (pss_one (ps_ret (pe_cmpR op_ne (pe_m D_Work_holds_plain T.cl_Work (hr.mono (by decide)) pass0 (pv 0) (pa_cons (pv 1) pa_nil)) (pe_cmpR op_eq (pe_op op_mod (pe_fld (pv 1) rfl) pe_int) pe_int (nomark _)) (nomark _)))), ?_⟩
  refine ⟨_, rfl, wk, dw, _, rfl, hw, nl_Work_holds_plain, _, rfl, wk, dw, ad, x, k, last, v4, v5, v6, v7, v8, a, rfl, hw, ha, ?_⟩
  refine ⟨_, rfl, ad, _, dx, _, _, rfl, ha0, T.cl_Address, T.na_Address_nots, lk_Address_nots, _, _, rfl, rfl, (by show (0 : Int) < 2; decide), rfl, rfl, ?_⟩
  rw [holds_not] at q
  have e1 : decide (V.int ((adNots a : Int) % 2) = V.int 1) = decide (adNots a % 2 = 1) := by
    rw [Bool.eq_iff_iff, decide_eq_true_iff, decide_eq_true_iff]
    constructor
    · intro z
      have z : (adNots a : Int) % 2 = 1 := by injection z
      omega
    · intro z
      have z : (adNots a : Int) % 2 = 1 := by omega
      rw [z]
  have e2 : ∀ b c : Bool, (!decide (V.bl b = V.bl c)) = (b != c) := by decide
  rw [← e2, ← e1] at q
  exact q
end
end Lp
end
section
set_option maxHeartbeats 4000000
/-! ### str.replace of two texts of a list whose object is known -/
namespace Lp
open PySem PySem.Spec PyProof.Rows L2
open PySem.W (Frag)
open Builtin Builtin.Str in
theorem gives_rep1 (x y z : Str) (t u v t1 : Tok) (hu : u ≠ 0) (hv : v ≠ 0) (huv : u ≠ v) (hl : tooLong (x.length + (occurrences x y 0 x.length 1).length * z.length) = false) (hy : y.length ≠ 0) :
    GivesAt (fun s => NoneBooked s.heap) (Builtin.«str.replace» ⟨[.str x t, .str y u, .str z v, .int 1 t1], []⟩)
      (if (occurrences x y 0 x.length 1).isEmpty = true then .val (.str x t)
       else if (y == z) = true then .either (.val (.str x t)) (.str (glued z (partsBetween x (occurrences x y 0 x.length 1) y.length)))
       else .str (glued z (partsBetween x (occurrences x y 0 x.length 1) y.length))) := by
  show GivesAt _ (if ((occurrences x y 0 x.length 1).isEmpty || (y.length == 0 && z.length == 0)) = true then (do rule "str.replace.nothing"; ret (.str x t)) else
          (do let same ← isSame (.str y u) (.str z v)
              if same = true then (do rule "str.replace.old-is-new"; ret (.str x t)) else
              if tooLong (x.length + (occurrences x y 0 x.length 1).length * z.length) = true then unsupported "str.replace:memory" else
              retStr (glued z (partsBetween x (occurrences x y 0 x.length 1) y.length)))) _
  have hy0 : (y.length == 0) = false := beq_eq_false_iff_ne.mpr hy
  rw [hy0, Bool.false_and, Bool.or_false]
  have h0 : (u == 0 || v == 0) = false := by simp [hu, hv]
  have h1 : (u == v) = false := by simp [huv]
  cases hc : (occurrences x y 0 x.length 1).isEmpty
  · cases hyz : (y == z)
    · rw [isSame_str_other y z u v h0 h1 hyz, hl]
      exact Gives.at (.of_eq rfl)
    · intro prog w A R s hb hq
      show wpAny _ _ (isSame (.str y u) (.str z v) >>= _) _ _ _
      refine wpAny_bind (wpAny_isSame_str h0 hb fun b => ?_)
      cases b
      · show wpAny _ _ (if tooLong (x.length + (occurrences x y 0 x.length 1).length * z.length) = true then _
                         else retStr (glued z (partsBetween x (occurrences x y 0 x.length 1) y.length))) _ _ _
        rw [hl]
        exact wpAny_bind (wpAny_mkStr (wpAny_pure hq.2.2) hq.2.1)
      · exact wpAny_bind (wpAny_rule (wpAny_pure hq.1))
  · exact Gives.at (.rule (.of_eq rfl))
section
variable {prog : Program} {w : World} {A : Around} {E : Value → Shared → Prop} {s : Shared} {x y z : Str} {t u v t1 : Tok} {Q : Value → Shared → Prop}
theorem call_rep1 (hu : u ≠ 0) (hv : v ≠ 0) (huv : u ≠ v) (hy : y.length ≠ 0) (hb : x.length + (x.length + 1) * z.length ≤ 1000000) (hx : (rep1 x y z).length ≤ 1000000)
    (hq : ∀ t' k, Q (.str (rep1 x y z) t') { s with toks := k }) (hnb : NoneBooked s.heap) :
    wpAny (model prog w) A (call (.builtin "str.replace") [.str x t, .str y u, .str z v, .int 1 t1]) Q E s := by
  have h1 := StrLaws.occ_length_le x y 0 x.length 1
  have hl : Builtin.Str.tooLong (x.length + (Builtin.Str.occurrences x y 0 x.length 1).length * z.length) = false := by
    have h2 : (Builtin.Str.occurrences x y 0 x.length 1).length * z.length ≤ (x.length + 1) * z.length := Nat.mul_le_mul_right _ (by omega)
    unfold Builtin.Str.tooLong
    exact decide_eq_false (by rw [sizeLine_eq]; omega)
  refine call_givesAt F.slot_str_replace (typeIs_str _ _ _) F.entry_str_replace (F.args_str_replace_4 _ _ _ _) (gives_rep1 x y z t u v t1 hu hv huv hl hy) hnb ?_
  unfold rep1 at hq hx
  cases hc : (Builtin.Str.occurrences x y 0 x.length 1).isEmpty
  · rw [hc] at hq hx
    simp only [Bool.false_eq_true, if_false] at hq hx ⊢
    cases hyz : (y == z)
    · simp only [Bool.false_eq_true, if_false]
      exact ⟨by rw [sizeLine_eq]; omega, hq _ _⟩
    · simp only [if_true]
      have e : y = z := eq_of_beq hyz
      subst e
      have eg : Builtin.Str.glued y (Builtin.Str.partsBetween x (Builtin.Str.occurrences x y 0 x.length 1) y.length) = x := StrLaws.glued_between_self x y _
      dsimp only [Made.post]
      refine ⟨?_, by rw [sizeLine_eq]; omega, hq _ _⟩
      have := hq t s.toks
      rw [eg] at this
      exact this
  · rw [hc] at hq
    simp only [if_true] at hq ⊢
    exact hq t s.toks
end
/-- a list of two texts, its object known -/
def Two (H : Hp) (a : Addr) (y z : Str) : Prop := ∃ (o : Obj) (t u : Tok) (n : Nat), H a = some (.frz o (.lst [.str y, .str z])) ∧ o.cls = .type "list" ∧ o.data = .seq #[.str y t, .str z u] n ∧ t ≠ 0 ∧ u ≠ 0 ∧ t ≠ u
theorem Two.mono {H H' : Hp} {a : Addr} {y z : Str} (s : Same H H') : Two H a y z → Two H' a y z := fun ⟨o, t, u, n, h1, h2⟩ => ⟨o, t, u, n, s _ _ h1, h2⟩
def NBk (K : Frag) : Prop := ∀ h : Heap, K.In h → NoneBooked h
def tRep2 (ip : Nat) (to : TE) : TE := fun σ H Q => to σ H fun v H1 => ∃ x a y z, v = .str x ∧ σ[ip]? = some (some (.ref a)) ∧ Two H1 a y z ∧ x.length + (x.length + 1) * z.length ≤ 16777216 ∧ Q (.str (Txt.replace x y z)) H1
def tRep3 (ip : Nat) (to : TE) : TE := fun σ H Q => to σ H fun v H1 => ∃ x a y z, v = .str x ∧ σ[ip]? = some (some (.ref a)) ∧ Two H1 a y z ∧ y.length ≠ 0 ∧ x.length + (x.length + 1) * z.length ≤ 1000000 ∧ (rep1 x y z).length ≤ 1000000 ∧ Q (.str (rep1 x y z)) H1
section
variable {X : Cx} {pins : List (Addr × Obj)} {σ : L2.St} {H : Hp} {s : Shared}
theorem Two.isList {a : Addr} {y z : Str} (h : Two H a y z) (I : Inv X pins σ H s) : ∃ t u, s.heap.IsList a #[.str y t, .str z u] ∧ t ≠ 0 ∧ u ≠ 0 ∧ t ≠ u := by
  obtain ⟨o, t, u, n, h1, h2, h3, h4⟩ := h
  have h5 := I.hok a _ h1
  obtain ⟨h6, _⟩ := h5
  exact ⟨t, u, ⟨o, h6, h2, n, h3⟩, h4⟩
theorem pe_rep2 {ip : Nat} {px : Str} {o : Expr} {to : TE} {j0 j1 : Nat} {p2 p3 c0 c1 q0 q1 apos pos : Pos} (NB : NBk X.K) (ho : PE X o to) (hNp : X.N[ip]? = some px) (hvp : Vis X.env.scope px)
    (hdp : (px == ("__debug__" : Str)) = false := by decide) (hcp : (px == ("__classdict__" : Str)) = false := by decide)
    (hst : starEach [.Subscript (.Name px p2) (.Constant (.int 0) j0 c0) q0, .Subscript (.Name px p3) (.Constant (.int 1) j1 c1) q1] X.env =
      [(false, eval (.Subscript (.Name px p2) (.Constant (.int 0) j0 c0) q0) X.env), (false, eval (.Subscript (.Name px p3) (.Constant (.int 1) j1 c1) q1) X.env)] := by rfl)
    (hbase : attributeBase o "replace" X.env (eval o X.env) = eval o X.env := by rfl) (hline : (apos.endLine == pos.line) = true := by rfl) :
    PE X (.Call (.Attribute o "replace" apos) [.Subscript (.Name px p2) (.Constant (.int 0) j0 c0) q0, .Subscript (.Name px p3) (.Constant (.int 1) j1 c1) q1] [] pos) (tRep2 ip to) := by
  refine ⟨fun pins s σ H Q I h => ?_⟩
  refine PySem.Call_method2 hbase hst hline (thn (ho.run pins s σ H _ I h) fun v s1 ⟨vv, H1, I1, r1, x, a, y, z, ev, hp, h2, hb, q⟩ => ?_)
  subst ev
  obtain ⟨tx, e⟩ := r1
  subst e
  obtain ⟨t, u, hl, ht, hu, htu⟩ := h2.isList I1
  refine ⟨"str", _, F.plainAttrs_str, F.slot_str_replace, F.type_str_replace, typeIs_str _ _ _, (fun _ e => nomatch e), Calls.callWith_builtin rfl (Calls.evalArgs_plain (Calls.spliced_cons ?_))⟩
  refine raw_ix hNp hvp I1 hp hl (by omega) (by omega) rfl (fun k1 => ?_) (fun _ _ => rfl) hdp hcp
  refine Calls.spliced_cons (raw_ix hNp hvp (I1.tok k1) hp hl (by omega) (by omega) rfl (fun k2 => ?_) (fun _ _ => rfl) hdp hcp)
  refine Calls.spliced_nil ?_
  exact PySem.SC.replaceA ht hu htu hb (fun t' k => ⟨.str (Txt.replace x y z), H1, I1.tok k, ⟨t', rfl⟩, q⟩) (NB _ (I1.tok k2).kIn)
theorem pe_rep3 {ip : Nat} {px : Str} {o : Expr} {to : TE} {j0 j1 j2 : Nat} {p2 p3 c0 c1 c2 q0 q1 apos pos : Pos} (NB : NBk X.K) (ho : PE X o to) (hNp : X.N[ip]? = some px) (hvp : Vis X.env.scope px)
    (hdp : (px == ("__debug__" : Str)) = false := by decide) (hcp : (px == ("__classdict__" : Str)) = false := by decide)
    (hst : starEach [.Subscript (.Name px p2) (.Constant (.int 0) j0 c0) q0, .Subscript (.Name px p3) (.Constant (.int 1) j1 c1) q1, .Constant (.int 1) j2 c2] X.env =
      [(false, eval (.Subscript (.Name px p2) (.Constant (.int 0) j0 c0) q0) X.env), (false, eval (.Subscript (.Name px p3) (.Constant (.int 1) j1 c1) q1) X.env), (false, eval (.Constant (.int 1) j2 c2) X.env)] := by rfl)
    (hbase : attributeBase o "replace" X.env (eval o X.env) = eval o X.env := by rfl) (hline : (apos.endLine == pos.line) = true := by rfl) :
    PE X (.Call (.Attribute o "replace" apos) [.Subscript (.Name px p2) (.Constant (.int 0) j0 c0) q0, .Subscript (.Name px p3) (.Constant (.int 1) j1 c1) q1, .Constant (.int 1) j2 c2] [] pos) (tRep3 ip to) := by
  refine ⟨fun pins s σ H Q I h => ?_⟩
  refine wpAny_Call_method_lateS hbase (by rw [hst]; rfl) hline ?_
  rw [hst]
  refine (thn (ho.run pins s σ H _ I h) fun v s1 ⟨vv, H1, I1, r1, x, a, y, z, ev, hp, h2, hy, hb, hx, q⟩ => ?_)
  subst ev
  obtain ⟨tx, e⟩ := r1
  subst e
  obtain ⟨t, u, hl, ht, hu, htu⟩ := h2.isList I1
  refine ⟨"str", _, F.plainAttrs_str, F.slot_str_replace, F.type_str_replace, typeIs_str _ _ _, (fun _ e => nomatch e), Calls.callWith_builtin rfl (Calls.evalArgs_plain (Calls.spliced_cons ?_))⟩
  refine raw_ix hNp hvp I1 hp hl (by omega) (by omega) rfl (fun k1 => ?_) (fun _ _ => rfl) hdp hcp
  refine Calls.spliced_cons (raw_ix hNp hvp (I1.tok k1) hp hl (by omega) (by omega) rfl (fun k2 => ?_) (fun _ _ => rfl) hdp hcp)
  show wpAny _ _ (spliced ((false, eval (.Constant (.int 1) j2 c2) X.env) :: [])) _ _ _
  refine Calls.spliced_cons ?_
  refine wpAny_Constant_int ?_
  refine Calls.spliced_nil ?_
  exact call_rep1 ht hu htu hy hb hx (fun t' k => ⟨.str (rep1 x y z), H1, I1.tok k, ⟨t', rfl⟩, q⟩) (NB _ (I1.tok k2).kIn)
end
end Lp
end
section
set_option maxHeartbeats 4000000
/-! ### runs: deeds -/
namespace Lp
open PySem PySem.Spec PyProof.Rows L2
open PySem.W (Frag)
open VasedBase (Bytes word)
open Vaseda (Line Text Cmd Deed)
def wdOf : Deed → Bytes
  | .delete => word "delete"
  | .before _ => word "before"
  | .after _ => word "after"
  | .change _ => word "change"
  | .swap _ _ => word "swap"
  | .first _ _ => word "first"
  | .keep => word "keep"
  | .bring => word "bring"
  | .trade => word "trade"
  | .skip _ => word "skip"
  | .halt_ => word "stop"
def skOf : Deed → Nat
  | .skip k => k
  | _ => 0
def DeedOk : Deed → Prop
  | .before w => w.length ≤ 8
  | .after w => w.length ≤ 8
  | .change w => w.length ≤ 8
  | .swap a b => a ≠ [] ∧ a.length ≤ 8 ∧ b.length ≤ 8
  | .first a b => a ≠ [] ∧ a.length ≤ 8 ∧ b.length ≤ 8
  | .skip k => k ≤ 9
  | _ => True
/-- a deed's letters at an address -/
def LetAt (H : Hp) (l : Addr) : Deed → Prop
  | .before w => H l = some (.lst [vS w])
  | .after w => H l = some (.lst [vS w])
  | .change w => H l = some (.lst [vS w])
  | .swap a b => Two H l (sOf a) (sOf b)
  | .first a b => Two H l (sOf a) (sOf b)
  | _ => True
theorem LetAt.mono {H H' : Hp} {l : Addr} (s : Same H H') : ∀ {d : Deed}, LetAt H l d → LetAt H' l d
  | .before _, h => s _ _ h
  | .after _, h => s _ _ h
  | .change _, h => s _ _ h
  | .swap _ _, h => Two.mono s h
  | .first _ _, h => Two.mono s h
  | .delete, h => h
  | .keep, h => h
  | .bring, h => h
  | .trade, h => h
  | .skip _, h => h
  | .halt_, h => h
def CmAt (K : Frag) (H : Hp) (c : Addr) (cm : Cmd) : Prop := ∃ (dx a l : Addr), H c = some (.ins (cA K "Command") dx (F_Command (.ref a) (vS (wdOf cm.d)) (.ref l) (.int (skOf cm.d : Nat)))) ∧ AdAt K H a cm.a ∧ LetAt H l cm.d ∧ DeedOk cm.d
theorem CmAt.mono {K : Frag} {H H' : Hp} {c : Addr} {cm : Cmd} (s : Same H H') : CmAt K H c cm → CmAt K H' c cm := fun ⟨dx, a, l, h1, h2, h3, h4⟩ => ⟨dx, a, l, s _ _ h1, h2.mono s, h3.mono s, h4⟩
theorem swapF_len (a b : Bytes) (ha : a ≠ []) (x : Line) : (Vaseda.swapIn a b false x).length ≤ x.length + (x.length + 1) * b.length := by
  have h := TK.replace_len (sOf x) (sOf a) (sOf b)
  rw [replace_swap ha, sOf_len, sOf_len, sOf_len] at h
  exact h
theorem swapT_by (a b : Bytes) (ha : a ≠ []) : ∀ (n : Nat) (x : Line), (Vaseda.swapBy a b true n x).length ≤ x.length + b.length
  | 0, x => Nat.le_add_right _ _
  | n + 1, [] => Nat.zero_le _
  | n + 1, c :: r => by
    have e : Vaseda.swapBy a b true (n + 1) (c :: r) = if Vaseda.begins a (c :: r) = true then b ++ (c :: r).drop a.length else c :: Vaseda.swapBy a b true n r := rfl
    rw [e]
    split
    · rw [List.length_append, List.length_drop]
      omega
    · have := swapT_by a b ha n r
      rw [List.length_cons, List.length_cons]
      omega
theorem swapT_len (a b : Bytes) (ha : a ≠ []) (x : Line) : (Vaseda.swapIn a b true x).length ≤ x.length + b.length := swapT_by a b ha _ x
section
variable {P : Program} {w : World} {K : Frag} {mg : Str → Option Value} {base : Heap}
abbrev s_Work_put_letters : Stmt := inClass (topS 81) 4
theorem sc_Work_put_letters : FnScope ["self", "letters"] ["self", "letters"] (defScope s_Work_put_letters) := ⟨rfl, rfl, rfl, by decide +kernel, rfl, by decide +kernel, by decide +kernel⟩
def spPutL (K : Frag) : Sp := fun vs H Q E => ∃ (wk dw : Addr) (y : Line) (v1 v2 v3 v4 v5 v6 v7 v8 : V), vs = [.ref wk, vS y] ∧ H wk = some (.ins (cA K "Work") dw (F_Work v1 v2 v3 v4 v5 v6 v7 v8)) ∧ y.length ≤ 10000 ∧
  (y.length ≤ 16 → Q .non (upd H wk (.ins (cA K "Work") dw (F_Work (vS y) v2 v3 v4 v5 v6 v7 v8)))) ∧ (16 < y.length → E (.ref (cA K "TooMuch")) none H)
theorem ok_put_letters (A : FnMt K (cA K "Work") "put_letters" "Work.put_letters" s_Work_put_letters ["self", "letters"]) (T : Txt K mg) : Dm P w K mg base (L2N.CX P w) 1 (cA K "Work") "put_letters" ["self", "letters"] (spPutL K) := A.dm fun f fd F => by
  refine okN F sc_Work_put_letters (fun vs H Q E h => ?_) (fun cdv A outer s H vs Q E hr h => ?_)
  · obtain ⟨_, _, _, _, _, _, _, _, _, _, _, rfl, _⟩ := h
    rfl
  obtain ⟨wk, dw, y, v1, v2, v3, v4, v5, v6, v7, v8, rfl, hw, hy, k1, k2⟩ := h
  refine ⟨_, (pss_cons (ps_if (pt_cmpR op_gt (pe_callB call_len (by rfl) T.f_len PySem.boot_len (pa_cons (pv 1) pa_nil)) (pe_gint T.g_MOST_LETTERS_runs) (nomark _))
      (pss_one (L2N.ps_raise rfl (L2N.takes_of rfl rfl rfl rfl) (L2N.pmk_own PySem.F.excBase_ValueError T.xc_TooMuch.1 T.g_TooMuch T.xc_TooMuch.2.1 (raises_own T.xc_TooMuch.2.2.1 T.xc_TooMuch.2.2.2) (by exact rfl))))
      pss_nil)
      (pss_one (ps_fld (pv 0) (pv 1) rfl))), ?_⟩
  refine ⟨_, rfl, _, y.length, rfl, ⟨by rw [sOf_len]; exact small' (by omega), (sOf_len y).symm⟩, _, _, rfl, rfl, _, rfl, if_of (fun c => ?_) (fun c => ?_)⟩
  · have c := of_decide_eq_true c
    exact k2 (by omega)
  · have c := of_decide_eq_false c
    refine ⟨_, rfl, _, rfl, wk, _, dw, _, rfl, hw, T.cl_Work, T.na_Work_letters, len_Work, ?_⟩
    rw [pt_Work_letters]
    exact k1 (by omega)
abbrev s_do_letters : Stmt := topS 83
theorem sc_do_letters : FnScope ["work", "word", "letters"] ["work", "word", "letters"] (defScope s_do_letters) := ⟨rfl, rfl, rfl, by decide +kernel, rfl, by decide +kernel, by decide +kernel⟩
def DoR (K : Frag) (H : Hp) (Q : VK) (E : XK) (wk dw pa pb : Addr) (x : Line) (v2 v3 v6 v7 v8 : V) (pre post : Text) : Deed → Prop
  | .before w => Q .non (upd H pa (.lst (vT (pre ++ [w]))))
  | .after w => Q .non (upd H pb (.lst (vT (post ++ [w]))))
  | .change w => Q .non (upd H wk (.ins (cA K "Work") dw (F_Work (vS w) v2 v3 (.ref pa) (.ref pb) v6 v7 v8)))
  | .swap a b => ((Vaseda.swapIn a b false x).length ≤ 16 → Q .non (upd H wk (.ins (cA K "Work") dw (F_Work (vS (Vaseda.swapIn a b false x)) v2 v3 (.ref pa) (.ref pb) v6 v7 v8)))) ∧ (16 < (Vaseda.swapIn a b false x).length → E (.ref (cA K "TooMuch")) none H)
  | .first a b => ((Vaseda.swapIn a b true x).length ≤ 16 → Q .non (upd H wk (.ins (cA K "Work") dw (F_Work (vS (Vaseda.swapIn a b true x)) v2 v3 (.ref pa) (.ref pb) v6 v7 v8)))) ∧ (16 < (Vaseda.swapIn a b true x).length → E (.ref (cA K "TooMuch")) none H)
  | _ => False
def spDoL (K : Frag) : Sp := fun vs H Q E => ∃ (wk dw pa pb l : Addr) (x : Line) (v2 v3 v6 v7 v8 : V) (pre post : Text) (d : Deed), vs = [.ref wk, vS (wdOf d), .ref l] ∧ H wk = some (.ins (cA K "Work") dw (F_Work (vS x) v2 v3 (.ref pa) (.ref pb) v6 v7 v8)) ∧
  H pa = some (.lst (vT pre)) ∧ H pb = some (.lst (vT post)) ∧ LetAt H l d ∧ DeedOk d ∧ x.length ≤ 16 ∧ pre.length ≤ 1000 ∧ post.length ≤ 1000 ∧ DoR K H Q E wk dw pa pb x v2 v3 v6 v7 v8 pre post d
theorem ok_do_letters (A : FnAt K mg "do_letters" s_do_letters ["work", "word", "letters"]) (T : Txt K mg) (NB : NBk K) (D_Work_put_letters : Dm P w K mg base (L2N.CX P w) 1 (cA K "Work") "put_letters" ["self", "letters"] (spPutL K)) :
    Dn P w K mg base (L2N.CX P w) 2 "do_letters" ["work", "word", "letters"] (spDoL K) := A.dn fun f fd F => by
  refine okN F sc_do_letters (fun vs H Q E h => ?_) (fun cdv A outer s H vs Q E hr h => ?_)
  · obtain ⟨_, _, _, _, _, _, _, _, _, _, _, _, _, _, rfl, _⟩ := h
    rfl
  obtain ⟨wk, dw, pa, pb, l, x, v2, v3, v6, v7, v8, pre, post, d, rfl, hw, hpa, hpb, hl, hd, zx, zp, zq, k⟩ := h
  refine ⟨_, (pss_one (ps_if (pt_cmpR op_eq (pv 1) pe_str (nomark _))
      (pss_one (ps_expr (pe_bm PySem.F.plainAttrs_list PySem.F.slot_list_append PySem.F.type_list_append mt_append (pe_fld (pv 0) rfl) (pa_cons (pe_ix ix_list (pv 2) pe_int (fun _ _ => rfl)) pa_nil))))
      (pss_one (ps_if (pt_cmpR op_eq (pv 1) pe_str (nomark _))
      (pss_one (ps_expr (pe_bm PySem.F.plainAttrs_list PySem.F.slot_list_append PySem.F.type_list_append mt_append (pe_fld (pv 0) rfl) (pa_cons (pe_ix ix_list (pv 2) pe_int (fun _ _ => rfl)) pa_nil))))
      (pss_one (ps_if (pt_cmpR op_eq (pv 1) pe_str (nomark _))
      (pss_one (ps_fld (pv 0) (pe_ix ix_list (pv 2) pe_int (fun _ _ => rfl)) rfl))
      (pss_one (ps_if (pt_cmpR op_eq (pv 1) pe_str (nomark _))
      (pss_one (ps_expr (pe_m D_Work_put_letters T.cl_Work (hr.mono (by decide)) (L2N.passes_call (L2N.takes_of rfl rfl rfl rfl) (fun _ _ _ _ h => h)) (pv 0) (pa_cons (pe_rep2 NB (pe_fld (pv 0) rfl) (ip := 2) rfl (.inl rfl)) pa_nil))))
      (pss_one (ps_expr (pe_m D_Work_put_letters T.cl_Work (hr.mono (by decide)) (L2N.passes_call (L2N.takes_of rfl rfl rfl rfl) (fun _ _ _ _ h => h)) (pv 0) (pa_cons (pe_rep3 NB (pe_fld (pv 0) rfl) (ip := 2) rfl (.inl rfl)) pa_nil)))))))))))), ?_⟩
  cases d with
  | before y =>
    refine ⟨_, rfl, rfl, _, rfl, if_yes (show decide (vS (word "before") = V.str (Str.ofString "before")) = true by decide +kernel) ?_⟩
    refine ⟨_, rfl, wk, _, dw, _, _, rfl, hw, T.cl_Work, T.na_Work_put_ahead, lk_Work_put_ahead, .inl ⟨rfl, _, .of hpa⟩, _, rfl, l, _, _, _, rfl, rfl, .of hl, rfl, pa, _, _, rfl, rfl, hpa, small (by rw [vT_len]; omega), ?_⟩
    have e : vT pre ++ [vS y] = vT (pre ++ [y]) := by simp [vT]
    rw [e]
    exact k
  | after y =>
    refine ⟨_, rfl, rfl, _, rfl, if_no (show decide (vS (word "after") = V.str (Str.ofString "before")) = false by decide +kernel) ?_⟩
    refine ⟨_, rfl, rfl, _, rfl, if_yes (show decide (vS (word "after") = V.str (Str.ofString "after")) = true by decide +kernel) ?_⟩
    refine ⟨_, rfl, wk, _, dw, _, _, rfl, hw, T.cl_Work, T.na_Work_put_behind, lk_Work_put_behind, .inl ⟨rfl, _, .of hpb⟩, _, rfl, l, _, _, _, rfl, rfl, .of hl, rfl, pb, _, _, rfl, rfl, hpb, small (by rw [vT_len]; omega), ?_⟩
    have e : vT post ++ [vS y] = vT (post ++ [y]) := by simp [vT]
    rw [e]
    exact k
  | change y =>
    refine ⟨_, rfl, rfl, _, rfl, if_no (show decide (vS (word "change") = V.str (Str.ofString "before")) = false by decide +kernel) ?_⟩
    refine ⟨_, rfl, rfl, _, rfl, if_no (show decide (vS (word "change") = V.str (Str.ofString "after")) = false by decide +kernel) ?_⟩
    refine ⟨_, rfl, rfl, _, rfl, if_yes (show decide (vS (word "change") = V.str (Str.ofString "change")) = true by decide +kernel) ?_⟩
    refine ⟨_, rfl, l, _, _, _, rfl, rfl, .of hl, rfl, _, rfl, wk, _, dw, _, rfl, hw, T.cl_Work, T.na_Work_letters, len_Work, ?_⟩
    rw [pt_Work_letters]
    exact k
  | swap y z =>
    refine ⟨_, rfl, rfl, _, rfl, if_no (show decide (vS (word "swap") = V.str (Str.ofString "before")) = false by decide +kernel) ?_⟩
    refine ⟨_, rfl, rfl, _, rfl, if_no (show decide (vS (word "swap") = V.str (Str.ofString "after")) = false by decide +kernel) ?_⟩
    refine ⟨_, rfl, rfl, _, rfl, if_no (show decide (vS (word "swap") = V.str (Str.ofString "change")) = false by decide +kernel) ?_⟩
    refine ⟨_, rfl, rfl, _, rfl, if_yes (show decide (vS (word "swap") = V.str (Str.ofString "swap")) = true by decide +kernel) ?_⟩
    obtain ⟨hy, zy, zz⟩ := hd
    have ly : 1 ≤ y.length := by cases y with | nil => exact absurd rfl hy | cons _ _ => simp
    have m : (x.length + 1) * z.length ≤ 17 * 8 := Nat.mul_le_mul (by omega) zz
    have zs := swapF_len y z hy x
    refine ⟨_, rfl, wk, dw, _, rfl, hw, nl_Work_put_letters, _, rfl, wk, _, dw, _, _, rfl, hw, T.cl_Work, T.na_Work_letters, lk_Work_letters, _, l, _, _, rfl, rfl, hl, by rw [sOf_len, sOf_len]; omega, ?_⟩
    rw [replace_swap hy]
    exact ⟨wk, dw, _, _, _, _, _, _, _, _, _, rfl, hw, by omega, k.1, k.2⟩
  | first y z =>
    refine ⟨_, rfl, rfl, _, rfl, if_no (show decide (vS (word "first") = V.str (Str.ofString "before")) = false by decide +kernel) ?_⟩
    refine ⟨_, rfl, rfl, _, rfl, if_no (show decide (vS (word "first") = V.str (Str.ofString "after")) = false by decide +kernel) ?_⟩
    refine ⟨_, rfl, rfl, _, rfl, if_no (show decide (vS (word "first") = V.str (Str.ofString "change")) = false by decide +kernel) ?_⟩
    refine ⟨_, rfl, rfl, _, rfl, if_no (show decide (vS (word "first") = V.str (Str.ofString "swap")) = false by decide +kernel) ?_⟩
    obtain ⟨hy, zy, zz⟩ := hd
    have ly : 1 ≤ y.length := by cases y with | nil => exact absurd rfl hy | cons _ _ => simp
    have m : (x.length + 1) * z.length ≤ 17 * 8 := Nat.mul_le_mul (by omega) zz
    have zs := swapT_len y z hy x
    refine ⟨_, rfl, wk, dw, _, rfl, hw, nl_Work_put_letters, _, rfl, wk, _, dw, _, _, rfl, hw, T.cl_Work, T.na_Work_letters, lk_Work_letters, _, l, _, _, rfl, rfl, hl, by rw [sOf_len]; omega, by rw [sOf_len, sOf_len]; omega, by rw [rep1_swap hy, sOf_len]; omega, ?_⟩
    rw [rep1_swap hy]
    exact ⟨wk, dw, _, _, _, _, _, _, _, _, _, rfl, hw, by omega, k.1, k.2⟩
  | delete => exact k.elim
  | keep => exact k.elim
  | bring => exact k.elim
  | trade => exact k.elim
  | skip n => exact k.elim
  | halt_ => exact k.elim
abbrev s_Run_do_held : Stmt := inClass (topS 82) 4
theorem sc_Run_do_held : FnScope ["self", "work", "word"] ["self", "work", "word"] (defScope s_Run_do_held) := ⟨rfl, rfl, rfl, by decide +kernel, rfl, by decide +kernel, by decide +kernel⟩
def HeR (K : Frag) (H : Hp) (Q : VK) (rn dr wk dw pa pb cm ca : Addr) (x held : Line) (v2 v3 v6 v7 v8 : V) (post : Text) : Deed → Prop
  | .bring => Q .non (upd H pb (.lst (vT (post ++ [held]))))
  | .keep => Q .non (upd H rn (.ins (cA K "Run") dr (F_Run (.ref cm) (vS x) (.ref ca))))
  | .trade => ∀ p, H p = none → Q .non (upd (upd (upd H p (.tup [vS x, vS held])) rn (.ins (cA K "Run") dr (F_Run (.ref cm) (vS x) (.ref ca)))) wk (.ins (cA K "Work") dw (F_Work (vS held) v2 v3 (.ref pa) (.ref pb) v6 v7 v8)))
  | _ => False
def spHeld (K : Frag) : Sp := fun vs H Q _ => ∃ (rn dr wk dw pa pb cm ca : Addr) (x held : Line) (v2 v3 v6 v7 v8 : V) (post : Text) (d : Deed), vs = [.ref rn, .ref wk, vS (wdOf d)] ∧ H wk = some (.ins (cA K "Work") dw (F_Work (vS x) v2 v3 (.ref pa) (.ref pb) v6 v7 v8)) ∧
  H rn = some (.ins (cA K "Run") dr (F_Run (.ref cm) (vS held) (.ref ca))) ∧ rn ≠ wk ∧ H pb = some (.lst (vT post)) ∧ post.length ≤ 1000 ∧ HeR K H Q rn dr wk dw pa pb cm ca x held v2 v3 v6 v7 v8 post d
theorem ok_do_held (A : FnMt K (cA K "Run") "do_held" "Run.do_held" s_Run_do_held ["self", "work", "word"]) (T : Txt K mg) : Dm P w K mg base CX0 1 (cA K "Run") "do_held" ["self", "work", "word"] (spHeld K) := A.dm fun f fd F => by
  refine ok0 F sc_Run_do_held (fun vs H Q E h => ?_) (fun cdv A outer s H vs Q E hr h => ?_)
  · obtain ⟨_, _, _, _, _, _, _, _, _, _, _, _, _, _, _, _, _, rfl, _⟩ := h
    rfl
  obtain ⟨rn, dr, wk, dw, pa, pb, cm, ca, x, held, v2, v3, v6, v7, v8, post, d, rfl, hw, hr', ne, hpb, zq, k⟩ := h
  refine ⟨_, (pss_one (ps_if (pt_cmpR op_eq (pv 2) pe_str (nomark _))
      (pss_one (ps_expr (pe_bm PySem.F.plainAttrs_list PySem.F.slot_list_append PySem.F.type_list_append mt_append (pe_fld (pv 1) rfl) (pa_cons (pe_fld (pv 0) rfl) pa_nil))))
      (pss_one (ps_if (pt_cmpR op_eq (pv 2) pe_str (nomark _))
      (pss_one (ps_fld (pv 0) (pe_fld (pv 1) rfl) rfl))
      (pss_one (ps_asg (pe_tup (pa_cons (pe_fld (pv 1) rfl) (pa_cons (pe_fld (pv 0) rfl) pa_nil))) (pg_tup (by rfl) (pgs_cons (pg_att (pv 0)) (pgs_cons (pg_att (pv 1)) pgs_nil))))))))), ?_⟩
  cases d with
  | bring =>
    refine ⟨_, rfl, rfl, _, rfl, if_yes (show decide (vS (word "bring") = V.str (Str.ofString "bring")) = true by decide +kernel) ?_⟩
    refine ⟨_, rfl, wk, _, dw, _, _, rfl, hw, T.cl_Work, T.na_Work_put_behind, lk_Work_put_behind, .inl ⟨rfl, _, .of hpb⟩, _, rfl, rn, _, dr, _, _, rfl, hr', T.cl_Run, T.na_Run_held, lk_Run_held, pb, _, _, rfl, rfl, hpb, small (by rw [vT_len]; omega), ?_⟩
    have e : vT post ++ [vS held] = vT (post ++ [held]) := by simp [vT]
    rw [e]
    exact k
  | keep =>
    refine ⟨_, rfl, rfl, _, rfl, if_no (show decide (vS (word "keep") = V.str (Str.ofString "bring")) = false by decide +kernel) ?_⟩
    refine ⟨_, rfl, rfl, _, rfl, if_yes (show decide (vS (word "keep") = V.str (Str.ofString "keep")) = true by decide +kernel) ?_⟩
    refine ⟨_, rfl, wk, _, dw, _, _, rfl, hw, T.cl_Work, T.na_Work_letters, lk_Work_letters, _, rfl, rn, _, dr, _, rfl, hr', T.cl_Run, T.na_Run_held, len_Run, ?_⟩
    rw [pt_Run_held]
    exact k
  | trade =>
    refine ⟨_, rfl, rfl, _, rfl, if_no (show decide (vS (word "trade") = V.str (Str.ofString "bring")) = false by decide +kernel) ?_⟩
    refine ⟨_, rfl, rfl, _, rfl, if_no (show decide (vS (word "trade") = V.str (Str.ofString "keep")) = false by decide +kernel) ?_⟩
    refine ⟨_, rfl, wk, _, dw, _, _, rfl, hw, T.cl_Work, T.na_Work_letters, lk_Work_letters, _, rfl, rn, _, dr, _, _, rfl, hr', T.cl_Run, T.na_Run_held, lk_Run_held, by show 2 ≤ sizeLine; decide, fun p hp => ?_⟩
    have n1 : rn ≠ p := fun z => by rw [z, hp] at hr'; cases hr'
    have n2 : wk ≠ p := fun z => by rw [z, hp] at hw; cases hw
    refine ⟨p, _, rfl, .of upd_same, rfl, _, _, rfl, _, rfl, rn, _, dr, _, rfl, by rw [upd_ne n1]; exact hr', T.cl_Run, T.na_Run_held, len_Run, _, _, rfl, _, rfl, wk, _, dw, _, rfl, by rw [upd_ne (Ne.symm ne), upd_ne n2]; exact hw, T.cl_Work, T.na_Work_letters, len_Work, rfl, ?_⟩
    rw [pt_Work_letters, pt_Run_held]
    exact k p hp
  | delete => exact k.elim
  | before y => exact k.elim
  | after y => exact k.elim
  | change y => exact k.elim
  | swap y z => exact k.elim
  | first y z => exact k.elim
  | skip n => exact k.elim
  | halt_ => exact k.elim
end
end Lp
end
section
set_option maxHeartbeats 4000000
/-! ### runs: a command done, looked at; a line gone over; a run -/
namespace Lp
open PySem PySem.Spec PyProof.Rows L2
open PySem.W (Frag)
open VasedBase (Bytes word)
open Vaseda (Line Text Cmd Deed)
/-- where a line's work lies, and the run's object -/
structure WkA where
  wk : Addr
  dw : Addr
  pa : Addr
  pb : Addr
  rn : Addr
  dr : Addr
  cm : Addr
  ca : Addr
def WkA.S (A : WkA) : List Addr := [A.wk, A.pa, A.pb, A.rn]
abbrev wkO (K : Frag) (A : WkA) (w : Vaseda.Work) (k : Nat) (last : Bool) : HO := .ins (cA K "Work") A.dw (F_Work (vS w.x) (.int (k : Nat)) (.bl last) (.ref A.pa) (.ref A.pb) (.bl w.gone) (.int (w.left : Nat)) (.bl w.halt))
abbrev rnO (K : Frag) (A : WkA) (held : Line) : HO := .ins (cA K "Run") A.dr (F_Run (.ref A.cm) (vS held) (.ref A.ca))
structure WkS (K : Frag) (H : Hp) (A : WkA) (w : Vaseda.Work) (k : Nat) (last : Bool) : Prop where
  wk : H A.wk = some (wkO K A w k last)
  pa : H A.pa = some (.lst (vT (w.pre.map (·.x))))
  pb : H A.pb = some (.lst (vT (w.post.map (·.x))))
  rn : H A.rn = some (rnO K A w.held)
  ne : A.rn ≠ A.wk
  nl : A.pa ≠ A.pb
structure WkB (n : Nat) (w : Vaseda.Work) : Prop where
  x : w.x.length ≤ 16
  held : w.held.length ≤ 16
  pre : w.pre.length ≤ n
  post : w.post.length ≤ n
  prex : ∀ o ∈ w.pre, o.x.length ≤ 16
  postx : ∀ o ∈ w.post, o.x.length ≤ 16
section
variable {K : Frag} {H H' : Hp} {A : WkA} {w w' : Vaseda.Work} {k : Nat} {last : Bool}
theorem WkS.mono (h : WkS K H A w k last) (s : Same H H') : WkS K H' A w k last := ⟨s _ _ h.wk, s _ _ h.pa, s _ _ h.pb, s _ _ h.rn, h.ne, h.nl⟩
theorem WkS.ap (h : WkS K H A w k last) : A.pa ≠ A.wk ∧ A.pb ≠ A.wk ∧ A.pa ≠ A.rn ∧ A.pb ≠ A.rn := by
  refine ⟨fun z => ?_, fun z => ?_, fun z => ?_, fun z => ?_⟩
  · have := h.pa; rw [z, h.wk] at this; cases this
  · have := h.pb; rw [z, h.wk] at this; cases this
  · have := h.pa; rw [z, h.rn] at this; cases this
  · have := h.pb; rw [z, h.rn] at this; cases this
theorem WkS.upW (h : WkS K H A w k last) (h1 : w'.pre = w.pre) (h2 : w'.post = w.post) (h3 : w'.held = w.held) : WkS K (upd H A.wk (wkO K A w' k last)) A w' k last := by
  obtain ⟨a1, a2, a3, a4⟩ := h.ap
  exact ⟨upd_same, by rw [upd_ne a1, h1]; exact h.pa, by rw [upd_ne a2, h2]; exact h.pb, by rw [upd_ne h.ne, h3]; exact h.rn, h.ne, h.nl⟩
theorem WkS.upA (h : WkS K H A w k last) {y : Line} (h1 : w'.pre.map (·.x) = w.pre.map (·.x) ++ [y]) (h2 : w'.post = w.post) (h3 : w'.held = w.held) (h4 : wkO K A w' k last = wkO K A w k last) : WkS K (upd H A.pa (.lst (vT (w.pre.map (·.x) ++ [y])))) A w' k last := by
  obtain ⟨a1, a2, a3, a4⟩ := h.ap
  exact ⟨by rw [upd_ne (Ne.symm a1), h4]; exact h.wk, by rw [upd_same, h1], by rw [upd_ne (Ne.symm h.nl), h2]; exact h.pb, by rw [upd_ne (Ne.symm a3), h3]; exact h.rn, h.ne, h.nl⟩
theorem WkS.upB (h : WkS K H A w k last) {y : Line} (h1 : w'.post.map (·.x) = w.post.map (·.x) ++ [y]) (h2 : w'.pre = w.pre) (h3 : w'.held = w.held) (h4 : wkO K A w' k last = wkO K A w k last) : WkS K (upd H A.pb (.lst (vT (w.post.map (·.x) ++ [y])))) A w' k last := by
  obtain ⟨a1, a2, a3, a4⟩ := h.ap
  exact ⟨by rw [upd_ne (Ne.symm a2), h4]; exact h.wk, by rw [upd_ne h.nl, h2]; exact h.pa, by rw [upd_same, h1], by rw [upd_ne (Ne.symm a4), h3]; exact h.rn, h.ne, h.nl⟩
theorem WkS.upR (h : WkS K H A w k last) (h1 : w'.pre = w.pre) (h2 : w'.post = w.post) (h4 : wkO K A w' k last = wkO K A w k last) : WkS K (upd H A.rn (rnO K A w'.held)) A w' k last := by
  obtain ⟨a1, a2, a3, a4⟩ := h.ap
  exact ⟨by rw [upd_ne (Ne.symm h.ne), h4]; exact h.wk, by rw [upd_ne a3, h1]; exact h.pa, by rw [upd_ne a4, h2]; exact h.pb, upd_same, h.ne, h.nl⟩
theorem inW : A.wk ∈ A.S := by simp [WkA.S]
theorem inA : A.pa ∈ A.S := by simp [WkA.S]
theorem inB : A.pb ∈ A.S := by simp [WkA.S]
theorem inR : A.rn ∈ A.S := by simp [WkA.S]
theorem FrS.keep {S : List Addr} {H H' : Hp} {a : Addr} {o : HO} (f : FrS S H H') (h : hidS S H a = some o) : H' a = some o := hidS_same S H' _ _ (f _ _ h)
end
section
variable {P : Program} {w : World} {K : Frag} {mg : Str → Option Value} {base : Heap}
abbrev s_Run_do : Stmt := inClass (topS 82) 3
theorem sc_Run_do : FnScope ["self", "work", "command"] ["self", "work", "command"] (defScope s_Run_do) := ⟨rfl, rfl, rfl, by decide +kernel, rfl, by decide +kernel, by decide +kernel⟩
/-- both ways out -/
def OutW (K : Frag) (H : Hp) (A : WkA) (w' : Vaseda.Work) (k : Nat) (last : Bool) (Q : VK) (E : XK) : Prop :=
  (w'.bad = false → ∀ H', FrS A.S H H' → WkS K H' A w' k last → Q .non H') ∧ (w'.bad = true → ∀ H', FrS A.S H H' → E (.ref (cA K "TooMuch")) none H')
def spDo (K : Frag) : Sp := fun vs H Q E => ∃ (A : WkA) (w : Vaseda.Work) (k i : Nat) (last : Bool) (c : Addr) (cm : Cmd), vs = [.ref A.rn, .ref A.wk, .ref c] ∧ WkS K H A w k last ∧ WkB 900 w ∧ w.bad = false ∧ CmAt K (hidS A.S H) c cm ∧ OutW K H A (Vaseda.deed k i w cm.d) k last Q E
theorem ok_do (A : FnMt K (cA K "Run") "do" "Run.do" s_Run_do ["self", "work", "command"]) (T : Txt K mg) (D_Run_do_held : Dm P w K mg base CX0 1 (cA K "Run") "do_held" ["self", "work", "word"] (spHeld K)) (D_do_letters : Dn P w K mg base (L2N.CX P w) 2 "do_letters" ["work", "word", "letters"] (spDoL K)) :
    Dm P w K mg base (L2N.CX P w) 3 (cA K "Run") "do" ["self", "work", "command"] (spDo K) := A.dm fun f fd F => by
  refine okN F sc_Run_do (fun vs H Q E h => ?_) (fun cdv A outer s H vs Q E hr h => ?_)
  · obtain ⟨_, _, _, _, _, _, _, rfl, _⟩ := h
    rfl
  obtain ⟨A, w, k, i, last, c, cm, rfl, hW, hB, nb, hc, k1, k2⟩ := h
  obtain ⟨dx, ad, l, hc0, had, hl, hd⟩ := hc
  obtain ⟨cma, d⟩ := cm
  refine ⟨_, (pss_cons (ps_if (pt_cmpR op_eq (pe_fld (pv 2) rfl) pe_str (nomark _))
      (pss_one (ps_fld (pv 1) pe_bl rfl))
      pss_nil)
      (pss_one (ps_if (pt_cmpR op_in_seq (pe_fld (pv 2) rfl) (pe_tup (pa_cons pe_str (pa_cons pe_str pa_nil))) (by rfl))
      (pss_one (ps_fld (pv 1) pe_bl rfl))
      (pss_one (ps_if (pt_cmpR op_eq (pe_fld (pv 2) rfl) pe_str (nomark _))
      (pss_one (ps_fld (pv 1) (pe_fld (pv 2) rfl) rfl))
      (pss_one (ps_if (pt_cmpR op_in_seq (pe_fld (pv 2) rfl) (pe_tup (pa_cons pe_str (pa_cons pe_str (pa_cons pe_str pa_nil)))) (by rfl))
      (pss_one (ps_expr (pe_m D_Run_do_held T.cl_Run (hr.mono (by decide)) pass0 (pv 0) (pa_cons (pv 1) (pa_cons (pe_fld (pv 2) rfl) pa_nil)))))
      (pss_one (ps_expr (pe_f D_do_letters (hr.mono (by decide)) (L2N.passes_call (L2N.takes_of rfl rfl rfl rfl) (fun _ _ _ _ h => h)) (pa_cons (pv 1) (pa_cons (pe_fld (pv 2) rfl) (pa_cons (pe_fld (pv 2) rfl) pa_nil))))))))))))), ?_⟩
  have f0 := FrS.refl A.S H
  have zp : (w.pre.map (·.x)).length ≤ 1000 := by rw [List.length_map]; have := hB.pre; omega
  have zq : (w.post.map (·.x)).length ≤ 1000 := by rw [List.length_map]; have := hB.post; omega
  cases d with
  | delete =>
    refine ⟨_, rfl, c, _, dx, _, _, rfl, (f0).keep hc0, T.cl_Command, T.na_Command_word, lk_Command_word, rfl, _, rfl, if_yes (show decide (vS (word "delete") = V.str (Str.ofString "delete")) = true by decide +kernel) ?_⟩
    refine ⟨_, rfl, A.wk, _, A.dw, _, rfl, hW.wk, T.cl_Work, T.na_Work_is_deleted, len_Work, ?_⟩
    rw [pt_Work_is_deleted]
    have hW1 : WkS K _ A { w with gone := true } k last := hW.upW rfl rfl rfl
    have f1 : FrS A.S H (upd H A.wk (wkO K A { w with gone := true } k last)) := f0.upd inW
    refine ⟨_, rfl, c, _, dx, _, _, rfl, (f1).keep hc0, T.cl_Command, T.na_Command_word, lk_Command_word, by show 2 ≤ sizeLine; decide, fun p hp => ⟨p, _, rfl, .inr (.of upd_same), rfl, rfl, _, rfl, if_yes (show inV (vS (word "delete")) [V.str (Str.ofString "delete"), V.str (Str.ofString "stop")] = true by decide +kernel) ?_⟩⟩
    have s2 := (Same.refl _).new (o := .tup [V.str (Str.ofString "delete"), V.str (Str.ofString "stop")]) hp
    have hW2 := hW1.mono s2
    refine ⟨_, rfl, A.wk, _, A.dw, _, rfl, hW2.wk, T.cl_Work, T.na_Work_is_done, len_Work, ?_⟩
    rw [pt_Work_is_done]
    have hW3 : WkS K _ A { w with gone := true, halt := true } k last := hW2.upW rfl rfl rfl
    exact k1 nb _ ((f1.new s2).upd inW) hW3
  | before y =>
    refine ⟨_, rfl, c, _, dx, _, _, rfl, (f0).keep hc0, T.cl_Command, T.na_Command_word, lk_Command_word, rfl, _, rfl, if_no (show decide (vS (word "before") = V.str (Str.ofString "delete")) = false by decide +kernel) ?_⟩
    refine ⟨_, rfl, c, _, dx, _, _, rfl, (f0).keep hc0, T.cl_Command, T.na_Command_word, lk_Command_word, by show 2 ≤ sizeLine; decide, fun p hp => ⟨p, _, rfl, .inr (.of upd_same), rfl, rfl, _, rfl, if_no (show inV (vS (word "before")) [V.str (Str.ofString "delete"), V.str (Str.ofString "stop")] = false by decide +kernel) ?_⟩⟩
    have s2 := (Same.refl H).new (o := .tup [V.str (Str.ofString "delete"), V.str (Str.ofString "stop")]) hp
    have f2 := f0.new s2
    have hW2 := hW.mono s2
    refine ⟨_, rfl, c, _, dx, _, _, rfl, (f2).keep hc0, T.cl_Command, T.na_Command_word, lk_Command_word, rfl, _, rfl, if_no (show decide (vS (word "before") = V.str (Str.ofString "skip")) = false by decide +kernel) ?_⟩
    refine ⟨_, rfl, c, _, dx, _, _, rfl, (f2).keep hc0, T.cl_Command, T.na_Command_word, lk_Command_word, by show 3 ≤ sizeLine; decide, fun q hq => ⟨q, _, rfl, .inr (.of upd_same), rfl, rfl, _, rfl, if_no (show inV (vS (word "before")) [V.str (Str.ofString "keep"), V.str (Str.ofString "trade"), V.str (Str.ofString "bring")] = false by decide +kernel) ?_⟩⟩
    have s3 := s2.new (o := .tup [V.str (Str.ofString "keep"), V.str (Str.ofString "trade"), V.str (Str.ofString "bring")]) hq
    have f3 := f0.new s3
    have hW3 := hW.mono s3
    refine ⟨_, rfl, _, rfl, c, _, dx, _, _, rfl, (f3).keep hc0, T.cl_Command, T.na_Command_word, lk_Command_word, _, rfl, c, _, dx, _, _, rfl, f3.keep hc0, T.cl_Command, T.na_Command_letters, lk_Command_letters, A.wk, A.dw, A.pa, A.pb, l, w.x, _, _, _, _, _, w.pre.map (·.x), w.post.map (·.x), .before y, rfl, hW3.wk, hW3.pa, hW3.pb, (hl.mono (hidS_same _ _)).mono s3, hd, hB.x, zp, zq, ?_⟩
    have hW4 : WkS K _ A { w with pre := w.pre ++ [⟨y, k, some i⟩] } k last := hW3.upA (y := y) (by simp) rfl rfl rfl
    exact k1 nb _ (f3.upd inA) hW4
  | after y =>
    refine ⟨_, rfl, c, _, dx, _, _, rfl, (f0).keep hc0, T.cl_Command, T.na_Command_word, lk_Command_word, rfl, _, rfl, if_no (show decide (vS (word "after") = V.str (Str.ofString "delete")) = false by decide +kernel) ?_⟩
    refine ⟨_, rfl, c, _, dx, _, _, rfl, (f0).keep hc0, T.cl_Command, T.na_Command_word, lk_Command_word, by show 2 ≤ sizeLine; decide, fun p hp => ⟨p, _, rfl, .inr (.of upd_same), rfl, rfl, _, rfl, if_no (show inV (vS (word "after")) [V.str (Str.ofString "delete"), V.str (Str.ofString "stop")] = false by decide +kernel) ?_⟩⟩
    have s2 := (Same.refl H).new (o := .tup [V.str (Str.ofString "delete"), V.str (Str.ofString "stop")]) hp
    have f2 := f0.new s2
    have hW2 := hW.mono s2
    refine ⟨_, rfl, c, _, dx, _, _, rfl, (f2).keep hc0, T.cl_Command, T.na_Command_word, lk_Command_word, rfl, _, rfl, if_no (show decide (vS (word "after") = V.str (Str.ofString "skip")) = false by decide +kernel) ?_⟩
    refine ⟨_, rfl, c, _, dx, _, _, rfl, (f2).keep hc0, T.cl_Command, T.na_Command_word, lk_Command_word, by show 3 ≤ sizeLine; decide, fun q hq => ⟨q, _, rfl, .inr (.of upd_same), rfl, rfl, _, rfl, if_no (show inV (vS (word "after")) [V.str (Str.ofString "keep"), V.str (Str.ofString "trade"), V.str (Str.ofString "bring")] = false by decide +kernel) ?_⟩⟩
    have s3 := s2.new (o := .tup [V.str (Str.ofString "keep"), V.str (Str.ofString "trade"), V.str (Str.ofString "bring")]) hq
    have f3 := f0.new s3
    have hW3 := hW.mono s3
    refine ⟨_, rfl, _, rfl, c, _, dx, _, _, rfl, (f3).keep hc0, T.cl_Command, T.na_Command_word, lk_Command_word, _, rfl, c, _, dx, _, _, rfl, f3.keep hc0, T.cl_Command, T.na_Command_letters, lk_Command_letters, A.wk, A.dw, A.pa, A.pb, l, w.x, _, _, _, _, _, w.pre.map (·.x), w.post.map (·.x), .after y, rfl, hW3.wk, hW3.pa, hW3.pb, (hl.mono (hidS_same _ _)).mono s3, hd, hB.x, zp, zq, ?_⟩
    have hW4 : WkS K _ A { w with post := w.post ++ [⟨y, k, some i⟩] } k last := hW3.upB (y := y) (by simp) rfl rfl rfl
    exact k1 nb _ (f3.upd inB) hW4
  | change y =>
    refine ⟨_, rfl, c, _, dx, _, _, rfl, (f0).keep hc0, T.cl_Command, T.na_Command_word, lk_Command_word, rfl, _, rfl, if_no (show decide (vS (word "change") = V.str (Str.ofString "delete")) = false by decide +kernel) ?_⟩
    refine ⟨_, rfl, c, _, dx, _, _, rfl, (f0).keep hc0, T.cl_Command, T.na_Command_word, lk_Command_word, by show 2 ≤ sizeLine; decide, fun p hp => ⟨p, _, rfl, .inr (.of upd_same), rfl, rfl, _, rfl, if_no (show inV (vS (word "change")) [V.str (Str.ofString "delete"), V.str (Str.ofString "stop")] = false by decide +kernel) ?_⟩⟩
    have s2 := (Same.refl H).new (o := .tup [V.str (Str.ofString "delete"), V.str (Str.ofString "stop")]) hp
    have f2 := f0.new s2
    have hW2 := hW.mono s2
    refine ⟨_, rfl, c, _, dx, _, _, rfl, (f2).keep hc0, T.cl_Command, T.na_Command_word, lk_Command_word, rfl, _, rfl, if_no (show decide (vS (word "change") = V.str (Str.ofString "skip")) = false by decide +kernel) ?_⟩
    refine ⟨_, rfl, c, _, dx, _, _, rfl, (f2).keep hc0, T.cl_Command, T.na_Command_word, lk_Command_word, by show 3 ≤ sizeLine; decide, fun q hq => ⟨q, _, rfl, .inr (.of upd_same), rfl, rfl, _, rfl, if_no (show inV (vS (word "change")) [V.str (Str.ofString "keep"), V.str (Str.ofString "trade"), V.str (Str.ofString "bring")] = false by decide +kernel) ?_⟩⟩
    have s3 := s2.new (o := .tup [V.str (Str.ofString "keep"), V.str (Str.ofString "trade"), V.str (Str.ofString "bring")]) hq
    have f3 := f0.new s3
    have hW3 := hW.mono s3
    refine ⟨_, rfl, _, rfl, c, _, dx, _, _, rfl, (f3).keep hc0, T.cl_Command, T.na_Command_word, lk_Command_word, _, rfl, c, _, dx, _, _, rfl, f3.keep hc0, T.cl_Command, T.na_Command_letters, lk_Command_letters, A.wk, A.dw, A.pa, A.pb, l, w.x, _, _, _, _, _, w.pre.map (·.x), w.post.map (·.x), .change y, rfl, hW3.wk, hW3.pa, hW3.pb, (hl.mono (hidS_same _ _)).mono s3, hd, hB.x, zp, zq, ?_⟩
    have hW4 : WkS K _ A { w with x := y } k last := hW3.upW rfl rfl rfl
    exact k1 nb _ (f3.upd inW) hW4
  | swap y z =>
    refine ⟨_, rfl, c, _, dx, _, _, rfl, (f0).keep hc0, T.cl_Command, T.na_Command_word, lk_Command_word, rfl, _, rfl, if_no (show decide (vS (word "swap") = V.str (Str.ofString "delete")) = false by decide +kernel) ?_⟩
    refine ⟨_, rfl, c, _, dx, _, _, rfl, (f0).keep hc0, T.cl_Command, T.na_Command_word, lk_Command_word, by show 2 ≤ sizeLine; decide, fun p hp => ⟨p, _, rfl, .inr (.of upd_same), rfl, rfl, _, rfl, if_no (show inV (vS (word "swap")) [V.str (Str.ofString "delete"), V.str (Str.ofString "stop")] = false by decide +kernel) ?_⟩⟩
    have s2 := (Same.refl H).new (o := .tup [V.str (Str.ofString "delete"), V.str (Str.ofString "stop")]) hp
    have f2 := f0.new s2
    have hW2 := hW.mono s2
    refine ⟨_, rfl, c, _, dx, _, _, rfl, (f2).keep hc0, T.cl_Command, T.na_Command_word, lk_Command_word, rfl, _, rfl, if_no (show decide (vS (word "swap") = V.str (Str.ofString "skip")) = false by decide +kernel) ?_⟩
    refine ⟨_, rfl, c, _, dx, _, _, rfl, (f2).keep hc0, T.cl_Command, T.na_Command_word, lk_Command_word, by show 3 ≤ sizeLine; decide, fun q hq => ⟨q, _, rfl, .inr (.of upd_same), rfl, rfl, _, rfl, if_no (show inV (vS (word "swap")) [V.str (Str.ofString "keep"), V.str (Str.ofString "trade"), V.str (Str.ofString "bring")] = false by decide +kernel) ?_⟩⟩
    have s3 := s2.new (o := .tup [V.str (Str.ofString "keep"), V.str (Str.ofString "trade"), V.str (Str.ofString "bring")]) hq
    have f3 := f0.new s3
    have hW3 := hW.mono s3
    refine ⟨_, rfl, _, rfl, c, _, dx, _, _, rfl, (f3).keep hc0, T.cl_Command, T.na_Command_word, lk_Command_word, _, rfl, c, _, dx, _, _, rfl, f3.keep hc0, T.cl_Command, T.na_Command_letters, lk_Command_letters, A.wk, A.dw, A.pa, A.pb, l, w.x, _, _, _, _, _, w.pre.map (·.x), w.post.map (·.x), .swap y z, rfl, hW3.wk, hW3.pa, hW3.pb, (hl.mono (hidS_same _ _)).mono s3, hd, hB.x, zp, zq, ?_⟩
    have eb : (Vaseda.deed k i w (.swap y z)).bad = decide (16 < (Vaseda.swapIn y z false w.x).length) := by
      show (w.bad || decide (Vaseda.LONG < _)) = _
      rw [nb]
      rfl
    refine ⟨fun z1 => ?_, fun z1 => k2 (by rw [eb]; exact decide_eq_true z1) _ f3⟩
    have hW4 : WkS K _ A { w with x := Vaseda.swapIn y z false w.x, bad := w.bad || decide (Vaseda.LONG < (Vaseda.swapIn y z false w.x).length) } k last := hW3.upW rfl rfl rfl
    exact k1 (by rw [eb]; exact decide_eq_false (by omega)) _ (f3.upd inW) hW4
  | first y z =>
    refine ⟨_, rfl, c, _, dx, _, _, rfl, (f0).keep hc0, T.cl_Command, T.na_Command_word, lk_Command_word, rfl, _, rfl, if_no (show decide (vS (word "first") = V.str (Str.ofString "delete")) = false by decide +kernel) ?_⟩
    refine ⟨_, rfl, c, _, dx, _, _, rfl, (f0).keep hc0, T.cl_Command, T.na_Command_word, lk_Command_word, by show 2 ≤ sizeLine; decide, fun p hp => ⟨p, _, rfl, .inr (.of upd_same), rfl, rfl, _, rfl, if_no (show inV (vS (word "first")) [V.str (Str.ofString "delete"), V.str (Str.ofString "stop")] = false by decide +kernel) ?_⟩⟩
    have s2 := (Same.refl H).new (o := .tup [V.str (Str.ofString "delete"), V.str (Str.ofString "stop")]) hp
    have f2 := f0.new s2
    have hW2 := hW.mono s2
    refine ⟨_, rfl, c, _, dx, _, _, rfl, (f2).keep hc0, T.cl_Command, T.na_Command_word, lk_Command_word, rfl, _, rfl, if_no (show decide (vS (word "first") = V.str (Str.ofString "skip")) = false by decide +kernel) ?_⟩
    refine ⟨_, rfl, c, _, dx, _, _, rfl, (f2).keep hc0, T.cl_Command, T.na_Command_word, lk_Command_word, by show 3 ≤ sizeLine; decide, fun q hq => ⟨q, _, rfl, .inr (.of upd_same), rfl, rfl, _, rfl, if_no (show inV (vS (word "first")) [V.str (Str.ofString "keep"), V.str (Str.ofString "trade"), V.str (Str.ofString "bring")] = false by decide +kernel) ?_⟩⟩
    have s3 := s2.new (o := .tup [V.str (Str.ofString "keep"), V.str (Str.ofString "trade"), V.str (Str.ofString "bring")]) hq
    have f3 := f0.new s3
    have hW3 := hW.mono s3
    refine ⟨_, rfl, _, rfl, c, _, dx, _, _, rfl, (f3).keep hc0, T.cl_Command, T.na_Command_word, lk_Command_word, _, rfl, c, _, dx, _, _, rfl, f3.keep hc0, T.cl_Command, T.na_Command_letters, lk_Command_letters, A.wk, A.dw, A.pa, A.pb, l, w.x, _, _, _, _, _, w.pre.map (·.x), w.post.map (·.x), .first y z, rfl, hW3.wk, hW3.pa, hW3.pb, (hl.mono (hidS_same _ _)).mono s3, hd, hB.x, zp, zq, ?_⟩
    have eb : (Vaseda.deed k i w (.first y z)).bad = decide (16 < (Vaseda.swapIn y z true w.x).length) := by
      show (w.bad || decide (Vaseda.LONG < _)) = _
      rw [nb]
      rfl
    refine ⟨fun z1 => ?_, fun z1 => k2 (by rw [eb]; exact decide_eq_true z1) _ f3⟩
    have hW4 : WkS K _ A { w with x := Vaseda.swapIn y z true w.x, bad := w.bad || decide (Vaseda.LONG < (Vaseda.swapIn y z true w.x).length) } k last := hW3.upW rfl rfl rfl
    exact k1 (by rw [eb]; exact decide_eq_false (by omega)) _ (f3.upd inW) hW4
  | keep =>
    refine ⟨_, rfl, c, _, dx, _, _, rfl, (f0).keep hc0, T.cl_Command, T.na_Command_word, lk_Command_word, rfl, _, rfl, if_no (show decide (vS (word "keep") = V.str (Str.ofString "delete")) = false by decide +kernel) ?_⟩
    refine ⟨_, rfl, c, _, dx, _, _, rfl, (f0).keep hc0, T.cl_Command, T.na_Command_word, lk_Command_word, by show 2 ≤ sizeLine; decide, fun p hp => ⟨p, _, rfl, .inr (.of upd_same), rfl, rfl, _, rfl, if_no (show inV (vS (word "keep")) [V.str (Str.ofString "delete"), V.str (Str.ofString "stop")] = false by decide +kernel) ?_⟩⟩
    have s2 := (Same.refl H).new (o := .tup [V.str (Str.ofString "delete"), V.str (Str.ofString "stop")]) hp
    have f2 := f0.new s2
    have hW2 := hW.mono s2
    refine ⟨_, rfl, c, _, dx, _, _, rfl, (f2).keep hc0, T.cl_Command, T.na_Command_word, lk_Command_word, rfl, _, rfl, if_no (show decide (vS (word "keep") = V.str (Str.ofString "skip")) = false by decide +kernel) ?_⟩
    refine ⟨_, rfl, c, _, dx, _, _, rfl, (f2).keep hc0, T.cl_Command, T.na_Command_word, lk_Command_word, by show 3 ≤ sizeLine; decide, fun q hq => ⟨q, _, rfl, .inr (.of upd_same), rfl, rfl, _, rfl, if_yes (show inV (vS (word "keep")) [V.str (Str.ofString "keep"), V.str (Str.ofString "trade"), V.str (Str.ofString "bring")] = true by decide +kernel) ?_⟩⟩
    have s3 := s2.new (o := .tup [V.str (Str.ofString "keep"), V.str (Str.ofString "trade"), V.str (Str.ofString "bring")]) hq
    have f3 := f0.new s3
    have hW3 := hW.mono s3
    refine ⟨_, rfl, A.rn, A.dr, _, rfl, hW3.rn, nl_Run_do_held, _, rfl, _, rfl, c, _, dx, _, _, rfl, (f3).keep hc0, T.cl_Command, T.na_Command_word, lk_Command_word, A.rn, A.dr, A.wk, A.dw, A.pa, A.pb, A.cm, A.ca, w.x, w.held, _, _, _, _, _, w.post.map (·.x), .keep, rfl, hW3.wk, hW3.rn, hW3.ne, hW3.pb, zq, ?_⟩
    have hW4 : WkS K _ A { w with held := w.x } k last := hW3.upR rfl rfl rfl
    exact k1 nb _ (f3.upd inR) hW4
  | bring =>
    refine ⟨_, rfl, c, _, dx, _, _, rfl, (f0).keep hc0, T.cl_Command, T.na_Command_word, lk_Command_word, rfl, _, rfl, if_no (show decide (vS (word "bring") = V.str (Str.ofString "delete")) = false by decide +kernel) ?_⟩
    refine ⟨_, rfl, c, _, dx, _, _, rfl, (f0).keep hc0, T.cl_Command, T.na_Command_word, lk_Command_word, by show 2 ≤ sizeLine; decide, fun p hp => ⟨p, _, rfl, .inr (.of upd_same), rfl, rfl, _, rfl, if_no (show inV (vS (word "bring")) [V.str (Str.ofString "delete"), V.str (Str.ofString "stop")] = false by decide +kernel) ?_⟩⟩
    have s2 := (Same.refl H).new (o := .tup [V.str (Str.ofString "delete"), V.str (Str.ofString "stop")]) hp
    have f2 := f0.new s2
    have hW2 := hW.mono s2
    refine ⟨_, rfl, c, _, dx, _, _, rfl, (f2).keep hc0, T.cl_Command, T.na_Command_word, lk_Command_word, rfl, _, rfl, if_no (show decide (vS (word "bring") = V.str (Str.ofString "skip")) = false by decide +kernel) ?_⟩
    refine ⟨_, rfl, c, _, dx, _, _, rfl, (f2).keep hc0, T.cl_Command, T.na_Command_word, lk_Command_word, by show 3 ≤ sizeLine; decide, fun q hq => ⟨q, _, rfl, .inr (.of upd_same), rfl, rfl, _, rfl, if_yes (show inV (vS (word "bring")) [V.str (Str.ofString "keep"), V.str (Str.ofString "trade"), V.str (Str.ofString "bring")] = true by decide +kernel) ?_⟩⟩
    have s3 := s2.new (o := .tup [V.str (Str.ofString "keep"), V.str (Str.ofString "trade"), V.str (Str.ofString "bring")]) hq
    have f3 := f0.new s3
    have hW3 := hW.mono s3
    refine ⟨_, rfl, A.rn, A.dr, _, rfl, hW3.rn, nl_Run_do_held, _, rfl, _, rfl, c, _, dx, _, _, rfl, (f3).keep hc0, T.cl_Command, T.na_Command_word, lk_Command_word, A.rn, A.dr, A.wk, A.dw, A.pa, A.pb, A.cm, A.ca, w.x, w.held, _, _, _, _, _, w.post.map (·.x), .bring, rfl, hW3.wk, hW3.rn, hW3.ne, hW3.pb, zq, ?_⟩
    have hW4 : WkS K _ A { w with post := w.post ++ [⟨w.held, k, some i⟩] } k last := hW3.upB (y := w.held) (by simp) rfl rfl rfl
    exact k1 nb _ (f3.upd inB) hW4
  | trade =>
    refine ⟨_, rfl, c, _, dx, _, _, rfl, (f0).keep hc0, T.cl_Command, T.na_Command_word, lk_Command_word, rfl, _, rfl, if_no (show decide (vS (word "trade") = V.str (Str.ofString "delete")) = false by decide +kernel) ?_⟩
    refine ⟨_, rfl, c, _, dx, _, _, rfl, (f0).keep hc0, T.cl_Command, T.na_Command_word, lk_Command_word, by show 2 ≤ sizeLine; decide, fun p hp => ⟨p, _, rfl, .inr (.of upd_same), rfl, rfl, _, rfl, if_no (show inV (vS (word "trade")) [V.str (Str.ofString "delete"), V.str (Str.ofString "stop")] = false by decide +kernel) ?_⟩⟩
    have s2 := (Same.refl H).new (o := .tup [V.str (Str.ofString "delete"), V.str (Str.ofString "stop")]) hp
    have f2 := f0.new s2
    have hW2 := hW.mono s2
    refine ⟨_, rfl, c, _, dx, _, _, rfl, (f2).keep hc0, T.cl_Command, T.na_Command_word, lk_Command_word, rfl, _, rfl, if_no (show decide (vS (word "trade") = V.str (Str.ofString "skip")) = false by decide +kernel) ?_⟩
    refine ⟨_, rfl, c, _, dx, _, _, rfl, (f2).keep hc0, T.cl_Command, T.na_Command_word, lk_Command_word, by show 3 ≤ sizeLine; decide, fun q hq => ⟨q, _, rfl, .inr (.of upd_same), rfl, rfl, _, rfl, if_yes (show inV (vS (word "trade")) [V.str (Str.ofString "keep"), V.str (Str.ofString "trade"), V.str (Str.ofString "bring")] = true by decide +kernel) ?_⟩⟩
    have s3 := s2.new (o := .tup [V.str (Str.ofString "keep"), V.str (Str.ofString "trade"), V.str (Str.ofString "bring")]) hq
    have f3 := f0.new s3
    have hW3 := hW.mono s3
    refine ⟨_, rfl, A.rn, A.dr, _, rfl, hW3.rn, nl_Run_do_held, _, rfl, _, rfl, c, _, dx, _, _, rfl, (f3).keep hc0, T.cl_Command, T.na_Command_word, lk_Command_word, A.rn, A.dr, A.wk, A.dw, A.pa, A.pb, A.cm, A.ca, w.x, w.held, _, _, _, _, _, w.post.map (·.x), .trade, rfl, hW3.wk, hW3.rn, hW3.ne, hW3.pb, zq, ?_⟩
    intro r hr'
    have s4 := (Same.refl _).new (o := .tup [vS w.x, vS w.held]) hr'
    have hW4 : WkS K _ A { w with held := w.x } k last := (hW3.mono s4).upR rfl rfl rfl
    have hW5 : WkS K _ A { w with x := w.held, held := w.x } k last := hW4.upW rfl rfl rfl
    exact k1 nb _ (((f3.new s4).upd inR).upd inW) hW5
  | skip n =>
    refine ⟨_, rfl, c, _, dx, _, _, rfl, (f0).keep hc0, T.cl_Command, T.na_Command_word, lk_Command_word, rfl, _, rfl, if_no (show decide (vS (word "skip") = V.str (Str.ofString "delete")) = false by decide +kernel) ?_⟩
    refine ⟨_, rfl, c, _, dx, _, _, rfl, (f0).keep hc0, T.cl_Command, T.na_Command_word, lk_Command_word, by show 2 ≤ sizeLine; decide, fun p hp => ⟨p, _, rfl, .inr (.of upd_same), rfl, rfl, _, rfl, if_no (show inV (vS (word "skip")) [V.str (Str.ofString "delete"), V.str (Str.ofString "stop")] = false by decide +kernel) ?_⟩⟩
    have s2 := (Same.refl H).new (o := .tup [V.str (Str.ofString "delete"), V.str (Str.ofString "stop")]) hp
    have f2 := f0.new s2
    have hW2 := hW.mono s2
    refine ⟨_, rfl, c, _, dx, _, _, rfl, (f2).keep hc0, T.cl_Command, T.na_Command_word, lk_Command_word, rfl, _, rfl, if_yes (show decide (vS (word "skip") = V.str (Str.ofString "skip")) = true by decide +kernel) ?_⟩
    refine ⟨_, rfl, c, _, dx, _, _, rfl, f2.keep hc0, T.cl_Command, T.na_Command_number, lk_Command_number, _, rfl, A.wk, _, A.dw, _, rfl, hW2.wk, T.cl_Work, T.na_Work_left_out, len_Work, ?_⟩
    rw [pt_Work_left_out]
    have hW3 : WkS K _ A { w with left := n } k last := hW2.upW rfl rfl rfl
    exact k1 nb _ (f2.upd inW) hW3
  | halt_ =>
    refine ⟨_, rfl, c, _, dx, _, _, rfl, (f0).keep hc0, T.cl_Command, T.na_Command_word, lk_Command_word, rfl, _, rfl, if_no (show decide (vS (word "stop") = V.str (Str.ofString "delete")) = false by decide +kernel) ?_⟩
    refine ⟨_, rfl, c, _, dx, _, _, rfl, (f0).keep hc0, T.cl_Command, T.na_Command_word, lk_Command_word, by show 2 ≤ sizeLine; decide, fun p hp => ⟨p, _, rfl, .inr (.of upd_same), rfl, rfl, _, rfl, if_yes (show inV (vS (word "stop")) [V.str (Str.ofString "delete"), V.str (Str.ofString "stop")] = true by decide +kernel) ?_⟩⟩
    have s2 := (Same.refl H).new (o := .tup [V.str (Str.ofString "delete"), V.str (Str.ofString "stop")]) hp
    have f2 := f0.new s2
    have hW2 := hW.mono s2
    refine ⟨_, rfl, A.wk, _, A.dw, _, rfl, hW2.wk, T.cl_Work, T.na_Work_is_done, len_Work, ?_⟩
    rw [pt_Work_is_done]
    have hW3 : WkS K _ A { w with halt := true } k last := hW2.upW rfl rfl rfl
    exact k1 nb _ (f2.upd inW) hW3
end
end Lp
end
section
set_option maxHeartbeats 4000000
/-! ### runs: a command looked at; a line gone over; a run -/
namespace Lp
open PySem PySem.Spec PyProof.Rows L2
open PySem.W (Frag)
open VasedBase (Bytes word)
open Vaseda (Line Text Cmd Deed)
/-- a line's work stays small -/
theorem WkB.step {n k i : Nat} {w : Vaseda.Work} {d : Deed} (b : WkB n w) (hd : DeedOk d) (nb : (Vaseda.deed k i w d).bad = false) : WkB (n + 1) (Vaseda.deed k i w d) := by
  obtain ⟨b1, b2, b3, b4, b5, b6⟩ := b
  have ap : ∀ (l : List Vaseda.Out) (o : Vaseda.Out), (∀ u ∈ l, u.x.length ≤ 16) → o.x.length ≤ 16 → ∀ u ∈ l ++ [o], u.x.length ≤ 16 := fun l o h1 h2 u hu => by
    rcases List.mem_append.mp hu with h | h
    · exact h1 u h
    · rw [List.mem_singleton.mp h]; exact h2
  cases d with
  | delete => exact ⟨b1, b2, Nat.le_succ_of_le b3, Nat.le_succ_of_le b4, b5, b6⟩
  | halt_ => exact ⟨b1, b2, Nat.le_succ_of_le b3, Nat.le_succ_of_le b4, b5, b6⟩
  | skip m => exact ⟨b1, b2, Nat.le_succ_of_le b3, Nat.le_succ_of_le b4, b5, b6⟩
  | keep => exact ⟨b1, b1, Nat.le_succ_of_le b3, Nat.le_succ_of_le b4, b5, b6⟩
  | trade => exact ⟨b2, b1, Nat.le_succ_of_le b3, Nat.le_succ_of_le b4, b5, b6⟩
  | change y =>
    have hd : y.length ≤ 8 := hd
    exact ⟨by show y.length ≤ 16; omega, b2, Nat.le_succ_of_le b3, Nat.le_succ_of_le b4, b5, b6⟩
  | before y =>
    have hd : y.length ≤ 8 := hd
    exact ⟨b1, b2, by show (w.pre ++ [_]).length ≤ _; rw [List.length_append, List.length_singleton]; omega, Nat.le_succ_of_le b4, ap _ _ b5 (by show y.length ≤ 16; omega), b6⟩
  | after y =>
    have hd : y.length ≤ 8 := hd
    exact ⟨b1, b2, Nat.le_succ_of_le b3, by show (w.post ++ [_]).length ≤ _; rw [List.length_append, List.length_singleton]; omega, b5, ap _ _ b6 (by show y.length ≤ 16; omega)⟩
  | bring => exact ⟨b1, b2, Nat.le_succ_of_le b3, by show (w.post ++ [_]).length ≤ _; rw [List.length_append, List.length_singleton]; omega, b5, ap _ _ b6 b2⟩
  | swap y z =>
    have nb : (w.bad || decide (16 < (Vaseda.swapIn y z false w.x).length)) = false := nb
    rw [Bool.or_eq_false_iff, decide_eq_false_iff_not] at nb
    exact ⟨by show (Vaseda.swapIn y z false w.x).length ≤ 16; omega, b2, Nat.le_succ_of_le b3, Nat.le_succ_of_le b4, b5, b6⟩
  | first y z =>
    have nb : (w.bad || decide (16 < (Vaseda.swapIn y z true w.x).length)) = false := nb
    rw [Bool.or_eq_false_iff, decide_eq_false_iff_not] at nb
    exact ⟨by show (Vaseda.swapIn y z true w.x).length ≤ 16; omega, b2, Nat.le_succ_of_le b3, Nat.le_succ_of_le b4, b5, b6⟩
theorem WkB.work {n k i : Nat} {last : Bool} {w : Vaseda.Work} {c : Cmd} (b : WkB n w) (hd : DeedOk c.d) (nb : (Vaseda.work k last w (c, i)).bad = false) : WkB (n + 1) (Vaseda.work k last w (c, i)) := by
  have up : WkB (n + 1) w := ⟨b.x, b.held, Nat.le_succ_of_le b.pre, Nat.le_succ_of_le b.post, b.prex, b.postx⟩
  unfold Vaseda.work at nb ⊢
  split at nb
  · rename_i h1
    rw [if_pos h1]
    exact up
  · rename_i h1
    rw [if_neg h1]
    split at nb
    · rename_i h2
      rw [if_pos h2]
      exact ⟨up.x, up.held, up.pre, up.post, up.prex, up.postx⟩
    · rename_i h2
      rw [if_neg h2]
      split at nb
      · rename_i h3
        rw [if_pos h3]
        exact WkB.step (w := { w with did := w.did ++ [i] }) ⟨b.x, b.held, b.pre, b.post, b.prex, b.postx⟩ hd nb
      · rename_i h3
        rw [if_neg h3]
        exact up
section
variable {P : Program} {w : World} {K : Frag} {mg : Str → Option Value} {base : Heap}
abbrev s_Run_look_at : Stmt := inClass (topS 82) 2
theorem sc_Run_look_at : FnScope ["self", "work", "command"] ["self", "work", "command"] (defScope s_Run_look_at) := ⟨rfl, rfl, rfl, by decide +kernel, rfl, by decide +kernel, by decide +kernel⟩
def spLook (K : Frag) : Sp := fun vs H Q E => ∃ (A : WkA) (w : Vaseda.Work) (k i : Nat) (last : Bool) (c : Addr) (cm : Cmd), vs = [.ref A.rn, .ref A.wk, .ref c] ∧ WkS K H A w k last ∧ WkB 900 w ∧ w.bad = false ∧ CmAt K (hidS A.S H) c cm ∧ OutW K H A (Vaseda.work k last w (cm, i)) k last Q E
theorem ok_look_at (A : FnMt K (cA K "Run") "look_at" "Run.look_at" s_Run_look_at ["self", "work", "command"]) (T : Txt K mg) (D_Work_holds : Dm P w K mg base CX0 2 (cA K "Work") "holds" ["self", "address"] (spHolds K)) (D_Run_do : Dm P w K mg base (L2N.CX P w) 3 (cA K "Run") "do" ["self", "work", "command"] (spDo K)) :
    Dm P w K mg base (L2N.CX P w) 4 (cA K "Run") "look_at" ["self", "work", "command"] (spLook K) := A.dm fun f fd F => by
  refine okN F sc_Run_look_at (fun vs H Q E h => ?_) (fun cdv A outer s H vs Q E hr h => ?_)
  · obtain ⟨_, _, _, _, _, _, _, rfl, _⟩ := h
    rfl
  obtain ⟨A, w, k, i, last, c, cm, rfl, hW, hB, nb, hc, k1, k2⟩ := h
  obtain ⟨dx, ad, l, hc0, had, hl, hd⟩ := id hc
  refine ⟨_, (pss_cons (ps_if (pt_val (pe_fld (pv 1) rfl))
      (pss_one ps_retN)
      pss_nil)
      (pss_one (ps_if (pt_cmpR op_gt (pe_fld (pv 1) rfl) pe_int (nomark _))
      (pss_one (ps_fldaug (pv 1) pe_int in_sub))
      (pss_one (ps_if (pt_val (pe_m D_Work_holds T.cl_Work (hr.mono (by decide)) pass0 (pv 1) (pa_cons (pe_fld (pv 2) rfl) pa_nil)))
      (pss_one (ps_expr (pe_m D_Run_do T.cl_Run (hr.mono (by decide)) (L2N.passes_call (L2N.takes_of rfl rfl rfl rfl) (fun _ _ _ _ h => h)) (pv 0) (pa_cons (pv 1) (pa_cons (pv 2) pa_nil)))))
      pss_nil))))), ?_⟩
  have f0 := FrS.refl A.S H
  refine ⟨_, rfl, A.wk, _, A.dw, _, _, rfl, hW.wk, T.cl_Work, T.na_Work_is_done, lk_Work_is_done, _, rfl, if_of (fun h1 => ?_) (fun h1 => ?_)⟩
  · have e : Vaseda.work k last w (cm, i) = w := by
      unfold Vaseda.work
      rw [if_pos (by rw [h1]; rfl)]
    rw [e] at k1
    exact k1 nb H f0 hW
  have n1 : ¬ (w.halt || w.bad) = true := by rw [h1, nb]; decide
  refine ⟨_, rfl, A.wk, _, A.dw, _, _, rfl, hW.wk, T.cl_Work, T.na_Work_left_out, lk_Work_left_out, _, _, rfl, rfl, _, rfl, if_of (fun h2 => ?_) (fun h2 => ?_)⟩
  · have h2 : (0 : Int) < (w.left : Nat) := of_decide_eq_true h2
    have e : Vaseda.work k last w (cm, i) = { w with left := w.left - 1 } := by
      unfold Vaseda.work
      rw [if_neg n1, if_pos (by omega)]
    rw [e] at k1
    refine ⟨_, rfl, A.wk, _, A.dw, _, _, rfl, hW.wk, T.cl_Work, T.na_Work_left_out, lk_Work_left_out, _, _, rfl, rfl, A.dw, _, hW.wk, len_Work, ?_⟩
    rw [pt_Work_left_out, show ((w.left : Nat) : Int) - 1 = ((w.left - 1 : Nat) : Int) from by omega]
    have hW3 : WkS K _ A { w with left := w.left - 1 } k last := hW.upW rfl rfl rfl
    exact k1 nb _ (f0.upd inW) hW3
  have h2 : ¬ (0 : Int) < (w.left : Nat) := of_decide_eq_false h2
  have n2 : ¬ 0 < w.left := by omega
  refine ⟨_, rfl, A.wk, A.dw, _, rfl, hW.wk, nl_Work_holds, _, rfl, c, _, dx, _, _, rfl, f0.keep hc0, T.cl_Command, T.na_Command_address, lk_Command_address, A.wk, A.dw, ad, w.x, k, last, _, _, _, _, _, cm.a, rfl, hW.wk, had.mono (hidS_same _ _), _, rfl, if_of (fun h3 => ?_) (fun h3 => ?_)⟩
  · have e : Vaseda.work k last w (cm, i) = Vaseda.deed k i { w with did := w.did ++ [i] } cm.d := by
      unfold Vaseda.work
      rw [if_neg n1, if_neg n2, if_pos h3]
    rw [e] at k1 k2
    exact ⟨_, rfl, A.rn, A.dr, _, rfl, hW.rn, nl_Run_do, _, rfl, _, rfl, A, { w with did := w.did ++ [i] }, k, i, last, c, cm, rfl, ⟨hW.wk, hW.pa, hW.pb, hW.rn, hW.ne, hW.nl⟩, ⟨hB.x, hB.held, hB.pre, hB.post, hB.prex, hB.postx⟩, nb, hc, k1, k2⟩
  · have e : Vaseda.work k last w (cm, i) = w := by
      unfold Vaseda.work
      rw [if_neg n1, if_neg n2, if_neg (by rw [h3]; exact Bool.false_ne_true)]
    rw [e] at k1
    exact k1 nb H f0 hW
abbrev s_Work_lines : Stmt := inClass (topS 81) 1
theorem sc_Work_lines : FnScope ["self"] ["self"] (defScope s_Work_lines) := ⟨rfl, rfl, rfl, by decide +kernel, rfl, by decide +kernel, by decide +kernel⟩
def spLinesW (K : Frag) : Sp := fun vs H Q _ => ∃ (A : WkA) (w : Vaseda.Work) (k : Nat) (last : Bool), vs = [.ref A.wk] ∧ WkS K H A w k last ∧ WkB 900 w ∧ ∀ r H', Same H H' → H' r = some (.lst (vT (outsW w))) → Q (.ref r) H'
theorem ok_lines (A : FnMt K (cA K "Work") "lines" "Work.lines" s_Work_lines ["self"]) (T : Txt K mg) : Dm P w K mg base CX0 1 (cA K "Work") "lines" ["self"] (spLinesW K) := A.dm fun f fd F => by
  refine ok0 F sc_Work_lines (fun vs H Q E h => ?_) (fun cdv A outer s H vs Q E hr h => ?_)
  · obtain ⟨_, _, _, _, rfl, _⟩ := h
    rfl
  obtain ⟨A, w, k, last, rfl, hW, hB, q⟩ := h
  refine ⟨_, (pss_one (ps_ret (pe_op op_cat (pe_op op_cat (pe_fld (pv 0) rfl) (pe_op op_rep (pe_lst (pa_cons (pe_fld (pv 0) rfl) pa_nil)) (pe_callTy call_int1 (by rfl) T.f_int (by decide +kernel) (pa_cons (pe_not (pe_fld (pv 0) rfl)) pa_nil)))) (pe_fld (pv 0) rfl)))), ?_⟩
  have b3 := hB.pre
  have b4 := hB.post
  refine ⟨_, rfl, A.wk, _, A.dw, _, _, rfl, hW.wk, T.cl_Work, T.na_Work_put_ahead, lk_Work_put_ahead, ?_⟩
  refine ⟨_, rfl, A.wk, _, A.dw, _, _, rfl, hW.wk, T.cl_Work, T.na_Work_letters, lk_Work_letters, by show 1 ≤ sizeLine; decide, fun p hp => ?_⟩
  have s1 := (Same.refl H).new (o := .lst [vS w.x]) hp
  refine ⟨_, rfl, A.wk, _, A.dw, _, _, rfl, s1 _ _ hW.wk, T.cl_Work, T.na_Work_is_deleted, lk_Work_is_deleted, _, rfl, .inr ⟨_, rfl, p, _, _, rfl, rfl, upd_same, by split <;> omega, by split <;> omega, small' (by rw [List.length_singleton]; split <;> omega), fun q1 hq1 => ?_⟩⟩
  rw [rep01]
  have s2 := s1.new (o := .lst (if (!w.gone) = true then [vS w.x] else [])) hq1
  have l1 : (if (!w.gone) = true then [vS w.x] else ([] : List V)).length ≤ 1 := by split <;> simp
  refine ⟨A.pa, q1, _, _, rfl, rfl, s2 _ _ hW.pa, upd_same, small' (by rw [vT_len, List.length_map]; omega), fun q2 hq2 => ?_⟩
  have s3 := s2.new (o := .lst (vT (w.pre.map (·.x)) ++ (if (!w.gone) = true then [vS w.x] else []))) hq2
  refine ⟨_, rfl, A.wk, _, A.dw, _, _, rfl, s3 _ _ hW.wk, T.cl_Work, T.na_Work_put_behind, lk_Work_put_behind, ?_⟩
  refine ⟨q2, A.pb, _, _, rfl, rfl, upd_same, s3 _ _ hW.pb, small' (by rw [List.length_append, vT_len, vT_len, List.length_map, List.length_map]; omega), fun q3 hq3 => q q3 _ (s3.new hq3) ?_⟩
  rw [upd_same]
  have e : vT (w.pre.map (·.x)) ++ (if (!w.gone) = true then [vS w.x] else []) ++ vT (w.post.map (·.x)) = vT (outsW w) := by
    unfold outsW
    cases w.gone <;> simp [vT]
  rw [e]
end
end Lp
end
section
set_option maxHeartbeats 4000000
/-! ### runs: a line gone over; a run -/
namespace Lp
open PySem PySem.Spec PyProof.Rows L2
open PySem.W (Frag)
open VasedBase (Bytes word)
open Vaseda (Line Text Cmd Deed Script)
def w00 (x held : Line) : Vaseda.Work := ⟨x, held, [], [], false, false, 0, [], false⟩
def wAt (s : Script) (k : Nat) (last : Bool) (x held : Line) (i : Nat) : Vaseda.Work := (s.zipIdx.take i).foldl (Vaseda.work k last) (w00 x held)
theorem zip_get {s : Script} {i : Nat} {c : Cmd} (h : s[i]? = some c) : s.zipIdx[i]? = some (c, i) := by
  rw [List.getElem?_zipIdx, h]
  simp
theorem wAt_succ {s : Script} {k : Nat} {last : Bool} {x held : Line} {i : Nat} {c : Cmd} (h : s[i]? = some c) : wAt s k last x held (i + 1) = Vaseda.work k last (wAt s k last x held i) (c, i) := by
  unfold wAt
  rw [take_snoc (zip_get h), List.foldl_append]
  rfl
theorem wAt_all (s : Script) (k : Nat) (last : Bool) (x held : Line) : wAt s k last x held s.length = Vaseda.lineRun s k last x held := by
  unfold wAt
  rw [List.take_of_length_le (by simp)]
  rfl
theorem wAt_bad {s : Script} {k : Nat} {last : Bool} {x held : Line} {i : Nat} (h : (wAt s k last x held i).bad = true) : (Vaseda.lineRun s k last x held).bad = true := by
  have e : Vaseda.lineRun s k last x held = (s.zipIdx.drop i).foldl (Vaseda.work k last) (wAt s k last x held i) := by
    unfold wAt
    rw [← List.foldl_append, List.take_append_drop]
    rfl
  rw [e]
  exact bad_stays k last _ _ h
theorem wAt_B {s : Script} {k : Nat} {last : Bool} {x held : Line} (hs : ∀ c ∈ s, DeedOk c.d) (hx : x.length ≤ 16) (hh : held.length ≤ 16) : ∀ i, i ≤ s.length → (wAt s k last x held i).bad = false → WkB i (wAt s k last x held i)
  | 0, _, _ => ⟨hx, hh, Nat.le_refl _, Nat.le_refl _, (fun o ho => nomatch ho), (fun o ho => nomatch ho)⟩
  | i + 1, hi, nb => by
    have e : s[i]? = some s[i] := List.getElem?_eq_getElem (by omega)
    rw [wAt_succ e] at nb ⊢
    have nb0 : (wAt s k last x held i).bad = false := by
      cases h : (wAt s k last x held i).bad with
      | false => rfl
      | true =>
        have := bad_stays k last [(s[i], i)] _ h
        rw [List.foldl_cons, List.foldl_nil, nb] at this
        cases this
    exact (wAt_B hs hx hh i (by omega) nb0).work (hs _ (List.getElem_mem _)) nb
theorem lineRun_B {s : Script} {k : Nat} {last : Bool} {x held : Line} (hs : ∀ c ∈ s, DeedOk c.d) (hx : x.length ≤ 16) (hh : held.length ≤ 16) (nb : (Vaseda.lineRun s k last x held).bad = false) : WkB s.length (Vaseda.lineRun s k last x held) := by
  rw [← wAt_all] at nb ⊢
  exact wAt_B hs hx hh _ (Nat.le_refl _) nb
theorem outs_small {n : Nat} {w : Vaseda.Work} (b : WkB n w) : (outsW w).length ≤ 2 * n + 1 ∧ ∀ x ∈ outsW w, x.length ≤ 16 := by
  unfold outsW
  constructor
  · have := b.pre
    have := b.post
    rw [List.length_append, List.length_append, List.length_map, List.length_map]
    split <;> simp <;> omega
  · intro x hx
    rcases List.mem_append.mp hx with h | h
    · obtain ⟨o, ho, rfl⟩ := List.mem_map.mp h
      exact b.prex o ho
    · rcases List.mem_append.mp h with h | h
      · split at h
        · cases h
        · rw [List.mem_singleton.mp h]; exact b.x
      · obtain ⟨o, ho, rfl⟩ := List.mem_map.mp h
        exact b.postx o ho
theorem runL_small {s : Script} (hs : ∀ c ∈ s, DeedOk c.d) : ∀ (t : Text) (k : Nat) (held : Line) (acc u : Text), (∀ x ∈ t, x.length ≤ 16) → held.length ≤ 16 → acc.length ≤ 60 → (∀ x ∈ acc, x.length ≤ 16) → runL s k held acc t = some u → u.length ≤ 60 ∧ ∀ x ∈ u, x.length ≤ 16
  | [], k, held, acc, u, _, _, ha, hb, h => by
    have h : some acc = some u := h
    cases h
    exact ⟨ha, hb⟩
  | x :: r, k, held, acc, u, ht, hh, ha, hb, h => by
    have e2 : runL s k held acc (x :: r) = if (Vaseda.lineRun s k r.isEmpty x held).bad = true then none else if 60 < (acc ++ outsW (Vaseda.lineRun s k r.isEmpty x held)).length then none else runL s (k + 1) (Vaseda.lineRun s k r.isEmpty x held).held (acc ++ outsW (Vaseda.lineRun s k r.isEmpty x held)) r := rfl
    rw [e2] at h
    split at h
    · cases h
    · rename_i nb
      split at h
      · cases h
      · rename_i l
        have B := lineRun_B hs (ht x List.mem_cons_self) hh (by simpa using nb)
        refine runL_small hs r _ _ _ u (fun y hy => ht y (List.mem_cons_of_mem _ hy)) B.held (by omega) (fun y hy => ?_) h
        rcases List.mem_append.mp hy with hy | hy
        · exact hb y hy
        · exact (outs_small B).2 y hy
def CmsAt (K : Frag) (H : Hp) (cm : Addr) (s : Script) : Prop := ∃ cs, H cm = some (.lst (cs.map V.ref)) ∧ Paired (fun c a => CmAt K H a c) s cs
theorem CmsAt.mono {K : Frag} {H H' : Hp} {cm : Addr} {s : Script} (h : Same H H') : CmsAt K H cm s → CmsAt K H' cm s := fun ⟨cs, h1, h2⟩ => ⟨cs, h _ _ h1, Paired.mapP h2 fun _ _ e => CmAt.mono h e⟩
theorem CmsAt.ok {K : Frag} {H : Hp} {cm : Addr} {s : Script} (h : CmsAt K H cm s) : ∀ c ∈ s, DeedOk c.d := by
  obtain ⟨cs, _, h2⟩ := h
  intro c hc
  obtain ⟨i, hi⟩ := List.getElem?_of_mem hc
  obtain ⟨a, _, h3⟩ := Paired.to h2 hi
  obtain ⟨_, _, _, _, _, _, h4⟩ := h3
  exact h4
section
variable {P : Program} {w : World} {K : Frag} {mg : Str → Option Value} {base : Heap}
abbrev s_Run_go_over : Stmt := inClass (topS 82) 1
theorem sc_Run_go_over : FnScope ["self", "letters", "number", "is_last", "work", "command"] ["self", "letters", "number", "is_last"] (defScope s_Run_go_over) := ⟨rfl, rfl, rfl, by decide +kernel, rfl, by decide +kernel, by decide +kernel⟩
def spGo (K : Frag) : Sp := fun vs H Q E => ∃ (rn dr cm ca : Addr) (x held : Line) (came : Text) (s : Script) (k : Nat) (last : Bool), vs = [.ref rn, vS x, .int (k : Nat), .bl last] ∧ H rn = some (.ins (cA K "Run") dr (F_Run (.ref cm) (vS held) (.ref ca))) ∧ H ca = some (.lst (vT came)) ∧
  CmsAt K (hidS [rn, ca] H) cm s ∧ x.length ≤ 16 ∧ held.length ≤ 16 ∧ s.length ≤ 100 ∧ came.length ≤ 1000 ∧
  ((Vaseda.lineRun s k last x held).bad = false → (came ++ outsW (Vaseda.lineRun s k last x held)).length ≤ 60 → ∀ H', FrS [rn, ca] H H' → H' rn = some (.ins (cA K "Run") dr (F_Run (.ref cm) (vS (Vaseda.lineRun s k last x held).held) (.ref ca))) → H' ca = some (.lst (vT (came ++ outsW (Vaseda.lineRun s k last x held)))) → Q .non H') ∧
  (((Vaseda.lineRun s k last x held).bad = true ∨ 60 < (came ++ outsW (Vaseda.lineRun s k last x held)).length) → ∀ H', FrS [rn, ca] H H' → E (.ref (cA K "TooMuch")) none H')
theorem ok_go_over (A : FnMt K (cA K "Run") "go_over" "Run.go_over" s_Run_go_over ["self", "letters", "number", "is_last"]) (T : Txt K mg) (D_Work : Dc P w K mg base 1 "Work" (cA K "Work") ["self", "letters", "number", "is_last"] (spNewWork K)) (D_Run_look_at : Dm P w K mg base (L2N.CX P w) 4 (cA K "Run") "look_at" ["self", "work", "command"] (spLook K))
    (D_Work_lines : Dm P w K mg base CX0 1 (cA K "Work") "lines" ["self"] (spLinesW K)) : Dm P w K mg base (L2N.CX P w) 5 (cA K "Run") "go_over" ["self", "letters", "number", "is_last"] (spGo K) := A.dm fun f fd F => by
  refine okN F sc_Run_go_over (fun vs H Q E h => ?_) (fun cdv A outer s H vs Q E hr h => ?_)
  · obtain ⟨_, _, _, _, _, _, _, _, _, _, rfl, _⟩ := h
    rfl
  obtain ⟨rn, dr, cm, ca, x, held, came, s, k, last, rfl, hrn, hca, hcm, zx, zh, zs, zc, k1, k2⟩ := h
  have hok := hcm.ok
  obtain ⟨cs, hcm1, hcm2⟩ := hcm
  have lcs := Paired.length hcm2
  refine ⟨_, (pss_cons (ps_set (i := 4) sc_Run_go_over.nd rfl (Or.inl rfl) (pe_c D_Work (hr.mono (by decide)) (pa_cons (pv 1) (pa_cons (pv 2) (pa_cons (pv 3) pa_nil)))))
      (pss_cons (ps_for (passes_of rfl) rfl (pi_list (pe_fld (pv 0) rfl)) (pg_name (i := 5) sc_Run_go_over.nd rfl (Or.inl rfl))
      (pss_one (ps_expr (pe_m D_Run_look_at T.cl_Run (hr.mono (by decide)) (L2N.passes_call (L2N.takes_of rfl rfl rfl rfl) (fun _ _ _ _ h => h)) (pv 0) (pa_cons (pv 4) (pa_cons (pv 5) pa_nil))))))
      (pss_cons (ps_expr (pe_bm PySem.F.plainAttrs_list PySem.F.slot_list_extend PySem.F.type_list_extend mt_extend (pe_fld (pv 0) rfl) (pa_cons (pe_m0 D_Work_lines T.cl_Work (hr.mono (by decide)) pass0 (pv 4)) pa_nil)))
      (pss_one (ps_if (pt_cmpR op_gt (pe_callB call_len (by rfl) T.f_len PySem.boot_len (pa_cons (pe_fld (pv 0) rfl) pa_nil)) (pe_gint T.g_MOST_RESULT) (nomark _))
      (pss_one (L2N.ps_raise rfl (L2N.takes_of rfl rfl rfl rfl) (L2N.pmk_own PySem.F.excBase_ValueError T.xc_TooMuch.1 T.g_TooMuch T.xc_TooMuch.2.1 (raises_own T.xc_TooMuch.2.2.1 T.xc_TooMuch.2.2.2) (by exact rfl))))
      pss_nil))))), ?_⟩
  refine ⟨_, rfl, _, rfl, _, rfl, ?_⟩
  intro wk dw hwk hdw hne
  refine ⟨wk, dw, _, _, _, rfl, upd_same, fun p0 p1 H2 hp0 n0 hp1 n1 n01 sb hl0 hl1 hw2 => ⟨rfl, ?_⟩⟩
  have nwd : p0 ≠ dw := fun z => by rw [z, upd_ne hne, upd_same] at hp0; cases hp0
  have nwd1 : p1 ≠ dw := fun z => by rw [z, upd_ne hne, upd_same] at hp1; cases hp1
  have hp00 : H p0 = none := by rw [upd_ne n0, upd_ne nwd] at hp0; exact hp0
  have hp10 : H p1 = none := by rw [upd_ne n1, upd_ne nwd1] at hp1; exact hp1
  have s2 : Same H H2 := Same.but hwk hdw sb
  obtain ⟨A, hA⟩ : ∃ A : WkA, A = ⟨wk, dw, p0, p1, rn, dr, cm, ca⟩ := ⟨_, rfl⟩
  have eS : A.S = [wk, p0, p1, rn] := by rw [hA]; rfl
  have nrw : rn ≠ wk := fun z => by rw [z, hwk] at hrn; cases hrn
  have hW0 : WkS K H2 A (w00 x held) k last := by rw [hA]; exact ⟨hw2, hl0, hl1, s2 _ _ hrn, nrw, n01⟩
  have ncr : ca ≠ rn := fun z => by rw [z, hrn] at hca; cases hca
  have caS : ca ∉ A.S := by
    rw [eS]
    simp only [List.mem_cons, List.not_mem_nil, or_false, not_or]
    exact ⟨ne_of_none hca hwk, ne_of_none hca hp00, ne_of_none hca hp10, ncr⟩
  have hid2 : Same (hidS [rn, ca] H) (hidS A.S H2) := fun b o e => by
    obtain ⟨e1, e2⟩ := hidS_out e
    have hb : b ∉ A.S := by
      rw [eS]
      simp only [List.mem_cons, List.not_mem_nil, or_false, not_or] at e1 ⊢
      exact ⟨ne_of_none e2 hwk, ne_of_none e2 hp00, ne_of_none e2 hp10, e1.1⟩
    exact hidS_get hb (s2 _ _ e2)
  have toF : ∀ H', FrS A.S H2 H' → FrS [rn, ca] H H' := fun H' f b o e => by
    have e1 := hid2 _ _ e
    have e2 := hidS_same _ _ _ _ (f _ _ e1)
    exact hidS_get (hidS_out e).1 e2
  have fin : ∀ (i : Nat) (H' : Hp), i = s.length → FrS A.S H2 H' → WkS K H' A (wAt s k last x held i) k last → (wAt s k last x held i).bad = false → WkS K H' A (Vaseda.lineRun s k last x held) k last ∧ (Vaseda.lineRun s k last x held).bad = false := fun i H' e f hW nb => by
    rw [e, wAt_all] at hW nb
    exact ⟨hW, nb⟩
  refine ⟨_, rfl, rn, _, dr, _, _, rfl, s2 _ _ hrn, T.cl_Run, T.na_Run_commands, lk_Run_commands, cm, rfl, ⟨_, .of (hidS_same _ _ _ _ (hid2 _ _ hcm1))⟩, ?_⟩
  refine for_it walk_list (fun i σ H' => ∃ x5, σ = [some (.ref rn), some (vS x), some (.int (k : Nat)), some (.bl last), some (.ref wk), x5] ∧ FrS A.S H2 H' ∧ WkS K H' A (wAt s k last x held i) k last ∧ (wAt s k last x held i).bad = false) ⟨none, rfl, FrS.refl _ _, hW0, rfl⟩
    (fun i σ H' _ h => by obtain ⟨_, _, f, _⟩ := h; exact .of (f.keep (hid2 _ _ hcm1))) ?_ ?_
  · rintro i v σ H' H'' hi ⟨x5, rfl, f, hW, nb⟩ ⟨rfl, ev⟩
    rw [List.getElem?_map] at ev
    obtain ⟨c, ec, rfl⟩ := Option.map_eq_some_iff.mp ev
    obtain ⟨cmd, ecm, hc⟩ := Paired.at hcm2 ec
    have hlt := (List.getElem?_eq_some_iff.mp ecm).1
    have B := wAt_B (k := k) (last := last) hok zx zh i (by omega) nb
    have B9 : WkB 900 (wAt s k last x held i) := ⟨B.x, B.held, by have := B.pre; omega, by have := B.post; omega, B.prex, B.postx⟩
    have hrn' : H'' rn = some (.ins (cA K "Run") dr (F_Run (.ref cm) (vS (wAt s k last x held i).held) (.ref ca))) := by
      have z := hW.rn
      rw [hA] at z
      exact z
    refine ⟨_, rfl, rn, dr, _, rfl, hrn', nl_Run_look_at, _, rfl, _, rfl, A, wAt s k last x held i, k, i, last, c, cmd, by rw [hA], hW, B9, nb, (hc.mono hid2).mono f, fun nb' H5 f5 hW5 => ?_, fun b5 H5 f5 => ?_⟩
    · exact ⟨some (.ref c), rfl, f.trans f5, by rw [wAt_succ ecm]; exact hW5, by rw [wAt_succ ecm]; exact nb'⟩
    · refine k2 (.inl ?_) H5 (toF H5 (f.trans f5))
      rw [← wAt_succ ecm] at b5
      exact wAt_bad b5
  · rintro σ H' ⟨x5, rfl, f, hW, nb⟩
    rw [List.length_map] at hW nb
    obtain ⟨hWf, nbf⟩ := fin _ H' lcs.symm f hW nb
    have B := lineRun_B hok zx zh nbf
    have B9 : WkB 900 (Vaseda.lineRun s k last x held) := ⟨B.x, B.held, by have := B.pre; omega, by have := B.post; omega, B.prex, B.postx⟩
    have lo := (outs_small B).1
    generalize Vaseda.lineRun s k last x held = wf at *
    have hrn' : H' rn = some (.ins (cA K "Run") dr (F_Run (.ref cm) (vS wf.held) (.ref ca))) := by
      have z := hWf.rn
      rw [hA] at z
      exact z
    have hwk' : H' wk = some (wkO K A wf k last) := by
      have z := hWf.wk
      rw [show A.wk = wk from by rw [hA]] at z
      exact z
    have hca' : H' ca = some (.lst (vT came)) := f.keep (hidS_get caS (s2 _ _ hca))
    refine ⟨_, rfl, rn, _, dr, _, _, rfl, hrn', T.cl_Run, T.na_Run_came, lk_Run_came, .inl ⟨rfl, _, .of hca'⟩, _, rfl, wk, A.dw, _, rfl, hwk', nl_Work_lines, A, wf, k, last, by rw [hA], hWf, B9, fun r H5 s5 hr5 => ⟨ca, r, _, _, rfl, rfl, s5 _ _ hca', hr5, small' (by rw [vT_len, vT_len]; omega), ?_⟩⟩
    have e : vT came ++ vT (outsW wf) = vT (came ++ outsW wf) := by simp [vT]
    rw [e]
    have f6 : FrS [rn, ca] H (upd H5 ca (.lst (vT (came ++ outsW wf)))) := ((toF H' f).new s5).upd (by simp)
    have hrn6 : upd H5 ca (.lst (vT (came ++ outsW wf))) rn = some (.ins (cA K "Run") dr (F_Run (.ref cm) (vS wf.held) (.ref ca))) := by rw [upd_ne (Ne.symm ncr)]; exact s5 _ _ hrn'
    refine ⟨_, rfl, rn, _, dr, _, _, rfl, hrn6, T.cl_Run, T.na_Run_came, lk_Run_came, _, (came ++ outsW wf).length, rfl, .inl ⟨_, .of upd_same, vT_len.symm⟩, _, _, rfl, rfl, _, rfl, if_of (fun c => ?_) (fun c => ?_)⟩
    · have c := of_decide_eq_true c
      exact k2 (.inr (by omega)) _ f6
    · have c := of_decide_eq_false c
      exact k1 nbf (by omega) _ f6 hrn6 upd_same
abbrev s_result_of : Stmt := topS 84
theorem sc_result_of : FnScope ["commands", "lines", "run", "k", "letters"] ["commands", "lines"] (defScope s_result_of) := ⟨rfl, rfl, rfl, by decide +kernel, rfl, by decide +kernel, by decide +kernel⟩
def spResult (K : Frag) : Sp := fun vs H Q E => ∃ (cm b : Addr) (s : Script) (t : Text), vs = [.ref cm, .ref b] ∧ CmsAt K H cm s ∧ H b = some (.lst (vT t)) ∧ TxLt t ∧ s.length ≤ 100 ∧
  (∀ u, (Vaseda.run s t).map Vaseda.outText = some u → u.length ≤ 60 → (∀ x ∈ u, x.length ≤ 16) → ∀ r H', Same H H' → H' r = some (.lst (vT u)) → Q (.ref r) H') ∧ ((Vaseda.run s t).map Vaseda.outText = none → ∀ H', Same H H' → E (.ref (cA K "TooMuch")) none H')
theorem ok_result_of (A : FnAt K mg "result_of" s_result_of ["commands", "lines"]) (T : Txt K mg) (D_Run : Dc P w K mg base 1 "Run" (cA K "Run") ["self", "commands"] (spNewRun K)) (D_Run_go_over : Dm P w K mg base (L2N.CX P w) 5 (cA K "Run") "go_over" ["self", "letters", "number", "is_last"] (spGo K)) :
    Dn P w K mg base (L2N.CX P w) 6 "result_of" ["commands", "lines"] (spResult K) := A.dn fun f fd F => by
  refine okN F sc_result_of (fun vs H Q E h => ?_) (fun cdv A outer s H vs Q E hr h => ?_)
  · obtain ⟨_, _, _, _, rfl, _⟩ := h
    rfl
  obtain ⟨cm, b, s, t, rfl, hcm, hb, ht, zs, k1, k2⟩ := h
  rw [run_loop] at k1 k2
  have hok := hcm.ok
  refine ⟨_, (pss_cons (ps_set (i := 2) sc_result_of.nd rfl (Or.inl rfl) (pe_c D_Run (hr.mono (by decide)) (pa_cons (pv 0) pa_nil)))
      (pss_cons (ps_for (passes_of rfl) rfl (pi_enum (by rfl) T.f_enumerate (pa_cons (pv 1) pa_nil)) (pg_tup (by rfl) (pgs_cons (pg_name (i := 3) sc_result_of.nd rfl (Or.inl rfl)) (pgs_cons (pg_name (i := 4) sc_result_of.nd rfl (Or.inl rfl)) pgs_nil)))
      (pss_one (ps_expr (pe_m D_Run_go_over T.cl_Run (hr.mono (by decide)) (L2N.passes_call (L2N.takes_of rfl rfl rfl rfl) (fun _ _ _ _ h => h)) (pv 2) (pa_cons (pv 4) (pa_cons (pe_op op_add (pv 3) pe_int) (pa_cons (pe_cmpR op_eq (pe_op op_add (pv 3) pe_int) (pe_callB call_len (by rfl) T.f_len PySem.boot_len (pa_cons (pv 1) pa_nil)) (nomark _)) pa_nil)))))))
      (pss_one (ps_ret (pe_fld (pv 2) rfl))))), ?_⟩
  refine ⟨_, rfl, ?_⟩
  intro rn dr hrn hdr hne
  refine ⟨rn, dr, _, rfl, upd_same, fun ca H2 hca0 nca sb hca hrn2 => ⟨rfl, ?_⟩⟩
  have s2 : Same H H2 := Same.but hrn hdr sb
  have ncd : ca ≠ dr := fun z => by rw [z, upd_ne hne, upd_same] at hca0; cases hca0
  have hca00 : H ca = none := by rw [upd_ne nca, upd_ne ncd] at hca0; exact hca0
  have toS : ∀ H', FrS [rn, ca] H2 H' → Same H H' := fun H' f a o e => by
    refine f.get ?_ (s2 _ _ e)
    simp only [List.mem_cons, List.not_mem_nil, or_false, not_or]
    exact ⟨ne_of_none e hrn, ne_of_none e hca00⟩
  have hidH : Same H (hidS [rn, ca] H2) := fun a o e => by
    refine hidS_get ?_ (s2 _ _ e)
    simp only [List.mem_cons, List.not_mem_nil, or_false, not_or]
    exact ⟨ne_of_none e hrn, ne_of_none e hca00⟩
  refine ⟨_, rfl, b, _, rfl, .of (s2 _ _ hb), ?_⟩
  refine for_it walk_enum (fun i σ H' => ∃ x3 x4 held came, σ = [some (.ref cm), some (.ref b), some (.ref rn), x3, x4] ∧ FrS [rn, ca] H2 H' ∧ H' rn = some (.ins (cA K "Run") dr (F_Run (.ref cm) (vS held) (.ref ca))) ∧ H' ca = some (.lst (vT came)) ∧ held.length ≤ 16 ∧ came.length ≤ 60 ∧ runL s 1 [] [] t = runL s (i + 1) held came (t.drop i))
    ?_ (fun i σ H' _ h => by obtain ⟨_, _, _, _, _, f, _⟩ := h; exact .of (toS H' f _ _ hb)) ?_ ?_
  · exact ⟨none, none, [], [], rfl, FrS.refl _ _, hrn2, hca, by simp, by simp, rfl⟩
  · rintro i v σ H' H'' hi ⟨x3, x4, held, came, rfl, f, hr1, hc1, zh, zc, eq⟩ ⟨t0, x0, y0, rfl, hT, rfl, ex0, ey0⟩
    cases ex0
    have ey0 : (vT t)[i]? = some y0 := ey0
    rw [List.getElem?_map] at ey0
    obtain ⟨x, ex, rfl⟩ := Option.map_eq_some_iff.mp ey0
    obtain ⟨lt, eg⟩ := List.getElem?_eq_some_iff.mp ex
    have zx := ht.2 x (List.mem_of_getElem? ex)
    have sT := (Same.refl H').new (o := .tup [V.int (i : Nat), vS x]) hT
    rw [List.drop_eq_getElem_cons lt, eg] at eq
    have e2 : runL s (i + 1) held came (x :: t.drop (i + 1)) = if (Vaseda.lineRun s (i + 1) (t.drop (i + 1)).isEmpty x held).bad = true then none else if 60 < (came ++ outsW (Vaseda.lineRun s (i + 1) (t.drop (i + 1)).isEmpty x held)).length then none else runL s (i + 1 + 1) (Vaseda.lineRun s (i + 1) (t.drop (i + 1)).isEmpty x held).held (came ++ outsW (Vaseda.lineRun s (i + 1) (t.drop (i + 1)).isEmpty x held)) (t.drop (i + 1)) := rfl
    rw [e2] at eq
    have el : (t.drop (i + 1)).isEmpty = decide (V.int ((i : Int) + 1) = V.int (t.length : Int)) := by
      rw [Bool.eq_iff_iff, List.isEmpty_iff, decide_eq_true_iff, List.drop_eq_nil_iff]
      constructor
      · intro z
        rw [show ((i : Int) + 1) = (t.length : Int) from by omega]
      · intro z
        have z : (i : Int) + 1 = (t.length : Int) := by injection z
        omega
    rw [el] at eq
    refine ⟨t0, _, rfl, .of upd_same, rfl, _, _, rfl, _, _, rfl, rfl, ?_⟩
    have hr1' := sT _ _ hr1
    have hb' := sT _ _ (toS H' f _ _ hb)
    refine ⟨_, rfl, rn, dr, _, rfl, hr1', nl_Run_go_over, _, rfl, _, rfl, _, _, rfl, rfl, _, rfl, _, _, rfl, rfl, _, rfl, _, t.length, rfl, .inl ⟨_, .of hb', vT_len.symm⟩, rfl, ?_⟩
    have cms : CmsAt K (hidS [rn, ca] (upd H' t0 (.tup [V.int (i : Nat), vS x]))) cm s := ((hcm.mono hidH).mono f).mono (hidS_mono sT)
    refine ⟨rn, dr, cm, ca, x, held, came, s, i + 1, _, rfl, hr1', sT _ _ hc1, cms, zx, zh, zs, by omega, fun nb l5 H5 f5 hr5 hc5 => ?_, fun bad H5 f5 => ?_⟩
    · have l5 : (came ++ outsW (Vaseda.lineRun s (i + 1) (decide (V.int ((i : Int) + 1) = V.int (t.length : Int))) x held)).length ≤ 60 := l5
      have nb : (Vaseda.lineRun s (i + 1) (decide (V.int ((i : Int) + 1) = V.int (t.length : Int))) x held).bad = false := nb
      rw [if_neg (by rw [nb]; exact Bool.false_ne_true), if_neg (by omega)] at eq
      have B := lineRun_B hok zx zh nb
      exact ⟨some (.int (i : Nat)), some (vS x), _, _, rfl, (f.new sT).trans f5, hr5, hc5, B.held, l5, eq⟩
    · refine k2 ?_ H5 (toS H5 ((f.new sT).trans f5))
      have bad : (Vaseda.lineRun s (i + 1) (decide (V.int ((i : Int) + 1) = V.int (t.length : Int))) x held).bad = true ∨ 60 < (came ++ outsW (Vaseda.lineRun s (i + 1) (decide (V.int ((i : Int) + 1) = V.int (t.length : Int))) x held)).length := bad
      rw [eq]
      rcases bad with bad | bad
      · rw [if_pos bad]
      · split
        · rfl
        · rfl
  · rintro σ H' ⟨x3, x4, held, came, rfl, f, hr1, hc1, zh, zc, eq⟩
    rw [vT_len, List.drop_of_length_le (Nat.le_refl _)] at eq
    have eq : runL s 1 [] [] t = some came := eq
    have sm := runL_small hok t 1 [] [] came ht.2 (by simp) (by simp) (fun x hx => nomatch hx) eq
    exact ⟨_, rfl, rn, _, dr, _, _, rfl, hr1, T.cl_Run, T.na_Run_came, lk_Run_came, k1 came eq sm.1 sm.2 ca H' (toS H' f) hc1⟩
end
end Lp
end
section
set_option maxHeartbeats 4000000
/-! ### the desk: a script loaded, the patch of a text -/
namespace Lp
open PySem PySem.Spec PyProof.Rows L2 L2H
open PySem.W (Frag)
open VasedBase (Bytes word)
open Vaseda (Line Text Cmd Deed Script)
open Vasedc (Op Patch)
section
variable {X : Cx} {CX : CXT} {k : Nat} {C : Addr} {ps : List Str} {sp : Sp} {E : L2.St → XK} {x m : Str} {p pos apos : Pos} {e o : Expr} {es : List Expr} {ta : TE} {t : TA}
/-- f(e, ..) where an exception is taken by the slots -/
theorem pe_fS (D : Dn X.prog X.w X.K X.mg X.base CX k x ps sp) (hr : Room k X.A) (hx : ∀ σ, PassesAt CX X σ (E σ)) (ha : PA X (e :: es) t) (hg : Gl X x := by rfl) (hdb : (x == ("__debug__" : Str)) = false := by decide)
    (he : starEach (e :: es) X.env = (false, eval e X.env) :: starEach es X.env := by rfl) (hpl : (backTo pos (starEach es X.env)).any (·.1) = false := by rfl) : PE X (.Call (.Name x p) (e :: es) [] pos) (tCallS sp E t) := by
  obtain ⟨f, fd, h1, h2, h3, h4⟩ := D.ex
  exact pe_callS h4 hr hg h1 h2 h3 hx ha hdb he hpl
/-- an own error made while another is handled -/
structure Dh (P : Program) (w : World) (K : Frag) (mg : Str → Option Value) (base : Heap) (k : Nat) (x : Str) (C : Addr) (ps : List Str) (sp : Sp) : Prop where
  ex : ∃ f fd, PySem.W.findIn K (.ref C) "__init__" = some (some (.ref f)) ∧ PySem.W.typeIn K (.ref f) = some (.type "function") ∧ mg x = some (.ref C) ∧ Binds K fd ps [] ∧ FnH P w K mg base CX0 k f fd ps sp
theorem pmk5_D (T : OexC X.K C) (D : Dh X.prog X.w X.K X.mg X.base k x C ps sp) (hr : RoomH (k + 1) X.A) (hc : HotC X) (hg : Gl X x) (ha : PA X (e :: es) t)
    (hdb : (x == ("__debug__" : Str)) = false := by decide) (he : starEach (e :: es) X.env = (false, eval e X.env) :: starEach es X.env := by rfl) (hpl : (backTo pos (starEach es X.env)).any (·.1) = false := by rfl) :
    L2H.PMk5 X (.Call (.Name x p) (e :: es) [] pos) (tMkO C sp [] t) := by
  obtain ⟨f, fd, h1, h2, h3, h4, h5⟩ := D.ex
  exact L2H.pmk5_oexH T h1 h2 h5 hr hc h4 pass0 hg h3 ha hdb he hpl
end
section
variable {P : Program} {w : World} {K : Frag} {mg : Str → Option Value} {base : Heap}
theorem okH {x qual : Str} {st : Stmt} {f : Addr} {fd : FuncData} {N ps : List Str} {k : Nat} {sp : Sp} (F : FnP K x qual st f fd) (S : FnScope N ps (defScope st)) (len : ∀ vs H Q E, sp vs H Q E → vs.length = ps.length)
    (hbody : ∀ (cdv : Value) (A : Around) (outer : List Env) (s : Shared) (H : Hp) (vs : List V) (Q : VK) (E : XK) (p : Addr × Obj), Hot1 A p → RoomH k (A.deeper (envOfC qual (defScope st) s.heap.objs.size f cdv)) → sp vs H Q E →
      ∃ t, PSs (cxH CX0 P w K mg base N qual (defScope st) f cdv A outer s H E p) (defBody st) t ∧ t { nx := fun _ H' => Q .non H', rt := Q } (L2.start N vs) H) : FnH P w K mg base CX0 (k + 1) f fd ps sp := by
  obtain ⟨oc, od, dV, kV, doc, pm, an, cdv, ct, osl, rfl, lk, hcd, _, _⟩ := F.ex
  exact fn_ofH lk hcd S len fun A outer s H vs Q E p hot hr hsp => hbody cdv A outer s H vs Q E p hot hr hsp
theorem ok_hot_Refused (A : FnEx K mg "Refused" (cA K "Refused") "Refused.__init__" s_Refused_init ["self", "number"]) (T : Txt K mg) : Dh P w K mg base 1 "Refused" (cA K "Refused") ["self", "number"] (spEx (cA K "Refused") 1 xRef) := by
  obtain ⟨f, fd, F, h2, h3, h4, h5⟩ := A.ex
  refine ⟨f, fd, h2, h3, h4, h5, okH F sc_Refused_init (fun vs H Q E h => ?_) (fun cdv A outer s H vs Q E p hot hr h => ?_)⟩
  · obtain ⟨a, ws, rfl, hl, _⟩ := h
    rw [List.length_cons, hl]
    rfl
  obtain ⟨a, ws, rfl, hl, hx, k⟩ := h
  obtain ⟨c, rfl⟩ : ∃ c, ws = [c] := by
    match ws, hl with
    | [c], _ => exact ⟨c, rfl⟩
  refine ⟨_, (pss_cons (ps_expr (pe_veinit (by rfl) T.f_ValueError T.vV (pa_cons (pv 0) (pa_cons pe_str pa_nil))))
      (pss_one (ps_ost (pv 0) (pv 1)))), ?_⟩
  refine ⟨_, rfl, a, cA K "Refused", _, rfl, by decide, T.ox_Refused, hx, ?_⟩
  refine ⟨_, rfl, _, rfl, a, cA K "Refused", rfl, T.ox_Refused, T.na_Refused_number, .inl ⟨hx, fun dx hdx hne => ?_⟩⟩
  refine k dx _ (fun b o e nb => ?_) hdx hne upd_same ?_
  · have nd : b ≠ dx := fun z => by rw [z, hdx] at e; cases e
    rw [upd_ne nb, upd_ne nd]
    exact e
  · rw [upd_ne hne, upd_same]
    rfl
/-- what came since H -/
def freshS (H H' : Hp) : Hp := fun a => match H a with
  | none => H' a
  | some _ => none
theorem fresh_same (H H' : Hp) : Same (freshS H H') H' := fun a o e => by
  unfold freshS at e
  cases h : H a with
  | none => rw [h] at e; exact e
  | some u => rw [h] at e; cases e
theorem fresh_get {H H' : Hp} {a : Addr} {o : HO} (h : H a = none) (e : H' a = some o) : freshS H H' a = some o := by
  unfold freshS
  rw [h]
  exact e
theorem fresh_mono {H H1 H2 : Hp} (s : Same H1 H2) : Same (freshS H H1) (freshS H H2) := fun a o e => by
  unfold freshS at e ⊢
  cases h : H a with
  | none => rw [h] at e; exact s _ _ e
  | some u => rw [h] at e; cases e
theorem fresh_hid {H H' : Hp} {d : Addr} {u : HO} (hd : H d = some u) : Same (freshS H H') (hidS [d] H') := fun a o e => by
  have n : a ≠ d := fun z => by
    unfold freshS at e
    rw [z, hd] at e
    cases e
  exact hidS_get (by simpa using n) (fresh_same H H' _ _ e)
/-- what reading a script promises -/
abbrev FauE (K : Frag) (E : XK) (H : Hp) (f : VasedBase.Fault) : Prop := ∀ d H', Same H H' → H' d = some (.xd [("place", .int (f.place : Nat)), ("code", .int (f.code : Nat))]) → E (.ref (cA K "Fault")) (some d) H'
def spRead (K : Frag) : Sp := fun vs H Q E => ∃ (a : Addr) (b : Bytes), vs = [.ref a] ∧ H a = some (.lst (vB b)) ∧ b.length ≤ 100000 ∧ (∀ s, Vaseda.read b = .ok s → s.length ≤ 16 → ∀ r H', Same H H' → CmsAt K (freshS H H') r s → Q (.ref r) H') ∧ (∀ f, Vaseda.read b = .error f → FauE K E H f)
/-- the desk with its script -/
def DkAt (K : Frag) (H : Hp) (dk : Addr) (o : Option Script) : Prop := ∃ dx v, H dk = some (.ins (cA K "Desk") dx (F_Desk v)) ∧ match o with
  | none => v = .non
  | some s => ∃ cm, v = .ref cm ∧ CmsAt K (hidS [dk] H) cm s ∧ s.length ≤ 16
theorem DkAt.mono {H H' : Hp} {dk : Addr} {o : Option Script} (s : Same H H') : DkAt K H dk o → DkAt K H' dk o := fun ⟨dx, v, h1, h2⟩ => ⟨dx, v, s _ _ h1, by
  cases o with
  | none => exact h2
  | some sc =>
    obtain ⟨cm, e, h3, h4⟩ := h2
    exact ⟨cm, e, h3.mono (hidS_mono s), h4⟩⟩
abbrev s_Desk_load : Stmt := inClass (topS 101) 1
theorem sc_Desk_load : FnScope ["self", "data", "e"] ["self", "data"] (defScope s_Desk_load) := ⟨rfl, rfl, rfl, by decide +kernel, rfl, by decide +kernel, by decide +kernel⟩
def spLoad (K : Frag) : Sp := fun vs H Q _ => ∃ (S : List Addr) (dk a : Addr) (b : Bytes) (o : Option Script), vs = [.ref dk, .ref a] ∧ (∀ x ∈ S, H x ≠ none) ∧ dk ∉ S ∧ DkAt K (hidS S H) dk o ∧ H a = some (.lst (vB b)) ∧ b.length ≤ 100000 ∧
  (∀ s, Vaseda.read b = .ok s → ∀ r H', FrS [dk] H H' → DkAt K (hidS S H') dk (some s) → H' r = some (.lst (vI [1, (s.length : Int)])) → H r = none → Q (.ref r) H') ∧
  (∀ f, Vaseda.read b = .error f → ∀ r H', FrS [dk] H H' → DkAt K (hidS S H') dk o → H' r = some (.lst (vI [0, (f.code : Int), (f.place : Int)])) → H r = none → Q (.ref r) H')
theorem ok_load (A : FnMt K (cA K "Desk") "load" "Desk.load" s_Desk_load ["self", "data"]) (T : Txt K mg) (D_read_script : Dn P w K mg base (L2.CX P w) 9 "read_script" ["data"] (spRead K)) : Dm P w K mg base CX0 10 (cA K "Desk") "load" ["self", "data"] (spLoad K) := A.dm fun f fd F => by
  refine ok0 F sc_Desk_load (fun vs H Q E h => ?_) (fun cdv A outer s H vs Q E hr h => ?_)
  · obtain ⟨_, _, _, _, _, rfl, _⟩ := h
    rfl
  obtain ⟨S, dk, a, b, o, rfl, hS, nS, hdk, ha, hz, k1, k2⟩ := h
  refine ⟨_, (pss_cons (ps_try_as (i := 2) (tb := fun W => sFld K (tVar 0) (tCallS (spRead K) (WE W) (tCons (tVar 1) tNil)) "commands") (ts := fun a cls d => tRet (tLst (tCons (tC (.int 0)) (tCons (tXf a cls d (cA K "Fault") "code" (tVar 2)) (tCons (tXf a cls d (cA K "Fault") "place" (tVar 2)) tNil))))) rfl rfl sc_Desk_load.nd rfl rfl ⟨rfl, by decide, .inl T.g_Fault⟩ takes_none5
      (fun W pn xe tk po => by exact (pss_one (ps_fld (pv 0) (pe_fS D_read_script (hr.mono (by decide)) (passAt tk) (pa_cons (pv 1) pa_nil)) rfl)))
      (fun a oe cls d pn hz hf => by exact (pss_one (ps_ret (pe_lst (pa_cons pe_int (pa_cons (pe_xf T.xf_Fault T.na_Fault_code hz hf (pv 2)) (pa_cons (pe_xf T.xf_Fault T.na_Fault_place hz hf (pv 2)) pa_nil))))))))
      (pss_one (ps_ret (pe_lst (pa_cons pe_int (pa_cons (pe_callB call_len (by rfl) T.f_len PySem.boot_len (pa_cons (pe_fld (pv 0) rfl) pa_nil)) pa_nil)))))), ?_⟩
  obtain ⟨dx, v, hdk0, hdk2⟩ := id hdk
  have hdk1 := hidS_same S H _ _ hdk0
  refine ⟨_, rfl, a, b, rfl, ha, hz, fun s hs ls r H1 s1 hr1 => ?_, fun f hf d H1 s1 hd => ?_⟩
  · refine ⟨_, rfl, dk, _, dx, _, rfl, s1 _ _ hdk1, T.cl_Desk, T.na_Desk_commands, len_Desk, ?_⟩
    rw [pt_Desk_commands]
    have hidc : CmsAt K (hidS [dk] H1) r s := hr1.mono (fresh_hid hdk1)
    have f1 : FrS [dk] H (upd H1 dk (.ins (cA K "Desk") dx (F_Desk (.ref r)))) := ((FrS.refl _ _).new s1).upd (by simp)
    have hfr : Same (freshS H H1) (hidS [dk] (hidS S (upd H1 dk (.ins (cA K "Desk") dx (F_Desk (.ref r)))))) := fun b ob e => by
      have hb : H b = none := by
        unfold freshS at e
        cases hh : H b with
        | none => rfl
        | some u => rw [hh] at e; cases e
      have n1 : b ≠ dk := fun z => by rw [z, hdk1] at hb; cases hb
      have n2 : b ∉ S := fun hm => hS b hm hb
      refine hidS_get (by simpa using n1) (hidS_get n2 ?_)
      rw [upd_ne n1]
      exact fresh_same H H1 _ _ e
    have hdk3 : DkAt K (hidS S (upd H1 dk (.ins (cA K "Desk") dx (F_Desk (.ref r))))) dk (some s) := ⟨dx, .ref r, hidS_get nS upd_same, r, rfl, hr1.mono hfr, ls⟩
    obtain ⟨cs, hc1, hc2⟩ := id hidc
    have nr : r ≠ dk := by have := (hidS_out hc1).1; simpa using this
    have lc := Paired.length hc2
    refine ⟨_, rfl, dk, _, dx, _, _, rfl, upd_same, T.cl_Desk, T.na_Desk_commands, lk_Desk_commands, _, _, rfl, .inl ⟨_, .of (by rw [upd_ne nr]; exact hidS_same _ _ _ _ hc1), rfl⟩, by show 2 ≤ sizeLine; decide, fun q hq => ?_⟩
    have s4 := (Same.refl _).new (o := .lst [V.int 1, V.int ((cs.map V.ref).length : Nat)]) hq
    have nqd : q ≠ dk := fun z => by rw [z, upd_same] at hq; cases hq
    refine k1 s hs q _ (f1.new s4) (hdk3.mono (hidS_mono s4)) ?_ (s1.free (by rw [upd_ne nqd] at hq; exact hq))
    rw [upd_same, List.length_map, ← lc]
    rfl
  · refine ⟨true, T.te_Fault, fun _ e he => ?_, fun z => nomatch z⟩
    refine ⟨_, rfl, rfl, rfl, d, _, _, rfl, hd, rfl, _, rfl, rfl, rfl, d, _, _, rfl, hd, rfl, by show 3 ≤ sizeLine; decide, fun q hq => ?_⟩
    have s4 := s1.new (o := .lst [V.int 0, V.int (f.code : Nat), V.int (f.place : Nat)]) hq
    refine k2 f hf q _ ((FrS.refl _ _).new s4) (hdk.mono (hidS_mono s4)) ?_ (s1.free hq)
    rw [upd_same]
    rfl
abbrev s_Desk_patch_of : Stmt := inClass (topS 101) 2
theorem sc_Desk_patch_of : FnScope ["self", "data", "lines", "came"] ["self", "data"] (defScope s_Desk_patch_of) := ⟨rfl, rfl, rfl, by decide +kernel, rfl, by decide +kernel, by decide +kernel⟩
def PatR (K : Frag) (H : Hp) (Q : VK) (E : XK) (b : Bytes) : Option Script → Prop
  | none => RefE K E H (-1)
  | some s => (Vaseda.readText b = none → RefE K E H (-4)) ∧ ∀ t, Vaseda.readText b = some t → ((Vaseda.run s t).map Vaseda.outText = none → RefE K E H (-7)) ∧
      ∀ u, (Vaseda.run s t).map Vaseda.outText = some u → u.length ≤ 60 → (∀ x ∈ u, x.length ≤ 16) → ∀ r H', Same H H' → MkAt H' r (Vasedc.patch t u) → Q (.ref r) H'
def spPatchOf (K : Frag) : Sp := fun vs H Q E => ∃ (dk a : Addr) (b : Bytes) (o : Option Script), vs = [.ref dk, .ref a] ∧ DkAt K H dk o ∧ H a = some (.lst (vB b)) ∧ b.length ≤ 100000 ∧ PatR K H Q E b o
theorem ok_patch_of (A : FnMt K (cA K "Desk") "patch_of" "Desk.patch_of" s_Desk_patch_of ["self", "data"]) (T : Txt K mg) (D_want : Dn P w K mg base (L2.CX P w) 3 "want" ["good", "number"] (spWant K)) (D_lines_of : Dn P w K mg base (L2.CX P w) 4 "lines_of" ["data"] (spLines K))
    (D_result_of : Dn P w K mg base (L2N.CX P w) 6 "result_of" ["commands", "lines"] (spResult K)) (D_hot : Dh P w K mg base 1 "Refused" (cA K "Refused") ["self", "number"] (spEx (cA K "Refused") 1 xRef))
    (D_least_patch : Dn P w K mg base CX0 2 "least_patch" ["one", "other"] spLeast) : Dm P w K mg base (L2.CX P w) 7 (cA K "Desk") "patch_of" ["self", "data"] (spPatchOf K) := A.dm fun f fd F => by
  refine okX F sc_Desk_patch_of (fun vs H Q E h => ?_) (fun cdv A outer s H vs Q E hr h => ?_)
  · obtain ⟨_, _, _, _, rfl, _⟩ := h
    rfl
  obtain ⟨dk, a, b, o, rfl, hdk, ha, hz, k⟩ := h
  refine ⟨_, (pss_cons (ps_expr (pe_f D_want (hr.mono (by decide)) (passes_call (takes_of rfl rfl rfl rfl) (fun _ _ _ _ h => h)) (pa_cons (pe_cmpR op_notN (pe_fld (pv 0) rfl) pe_non (nomark _)) (pa_cons (pe_gint T.g_NO_SCRIPT) pa_nil))))
    (pss_cons (ps_set (i := 2) sc_Desk_patch_of.nd rfl (Or.inl rfl) (pe_f D_lines_of (hr.mono (by decide)) (passes_call (takes_of rfl rfl rfl rfl) (fun _ _ _ _ h => h)) (pa_cons (pv 1) pa_nil)))
    (pss_cons (ps_try_onlyX (tb := fun W => tAsg (tCallS (spResult K) (WE W) (tCons (tFld K (tVar 0) "commands") (tCons (tVar 2) tNil))) (gName 3))
        (ts := fun _ _ _ => fun _ σ H => tMkO (cA K "Refused") (spEx (cA K "Refused") 1 xRef) [] (tCons (tC (.int (-7))) tNil) σ H fun cls d H' => E cls d H') rfl rfl ⟨rfl, by decide, .inl T.g_TooMuch⟩ (passesAt_of rfl) (takes_of rfl rfl rfl rfl)
        (fun W pn xe tk tk2 po => by exact (pss_one (ps_set (i := 3) sc_Desk_patch_of.nd rfl (Or.inl rfl) (pe_fS D_result_of (hr.mono (by decide)) (L2N.passAt tk) (pa_cons (pe_fld (pv 0) rfl) (pa_cons (pv 2) pa_nil))))))
        (fun a oe cls d pn hz hf tk hot => by exact (pss_one (ps_raiseHN hot tk (pmk5_D T.ox_Refused D_hot (roomH_mark (hr.mono (by decide)) _) hot rfl (pa_cons (pe_gint T.g_TOO_MUCH) pa_nil))))))
    (pss_one (ps_ret (pe_f D_least_patch (hr.mono (by decide)) pass0 (pa_cons (pv 2) (pa_cons (pv 3) pa_nil)))))))), ?_⟩
  obtain ⟨dx, v, hdk1, hdk2⟩ := id hdk
  cases o with
  | none =>
    obtain rfl : v = .non := hdk2
    refine ⟨_, rfl, dk, _, dx, _, _, rfl, hdk1, T.cl_Desk, T.na_Desk_commands, lk_Desk_commands, rfl, false, -1, rfl, (fun z => nomatch z), fun _ => k⟩
  | some s =>
    obtain ⟨cm, rfl, hcm, ls⟩ := hdk2
    obtain ⟨k1, k2⟩ := k
    refine ⟨_, rfl, dk, _, dx, _, _, rfl, hdk1, T.cl_Desk, T.na_Desk_commands, lk_Desk_commands, rfl, true, -1, rfl, fun _ => ?_, (fun z => nomatch z)⟩
    refine ⟨_, rfl, a, b, rfl, ha, hz, fun t ht r H1 s1 _ hr1 => ?_, k1⟩
    obtain ⟨k3, k4⟩ := k2 t ht
    have tl := read_ok ht
    refine ⟨_, rfl, dk, _, dx, _, _, rfl, s1 _ _ hdk1, T.cl_Desk, T.na_Desk_commands, lk_Desk_commands, _, rfl, cm, r, s, t, rfl, (hcm.mono (hidS_same _ _)).mono s1, hr1, tl, by omega, fun u hu lu lx q H2 s2 hq => ?_, fun hu H2 s2 => ?_⟩
    · have s12 := s1.trans s2
      refine ⟨_, rfl, _, rfl, r, q, t, u, rfl, s2 _ _ hr1, hq, by omega, by omega, fun m H3 s3 hm => k4 u hu lu lx m H3 (s12.trans s3) hm⟩
    · refine ⟨true, T.te_TooMuch, fun _ e he => ?_, fun z => nomatch z⟩
      exact mkF rfl (by decide) fun d H' s3 hd => k3 hu d H' ((s1.trans s2).trans s3) hd
end
end Lp
end
section
set_option maxHeartbeats 4000000
/-! ### a list comprehension whose element may let an exception of a call out -/
namespace Lp
open PySem PySem.Spec PyProof.Rows L2
open PySem.W (Frag)
theorem noteFrame_eq {x : Value} {ce env : Env} (h : ce.frame = env.frame) : noteFrame x ce = noteFrame x env := by
  unfold noteFrame PySem.frameOf
  rw [h]
theorem frames_but {h1 h2 B B2 : Heap} {C : Addr} (hb : ∀ b, b ≠ C → h2.get? b = h1.get? b) (hn : ∀ b, B.get? b = none → B2.get? b = none) : ∀ {l : List Env}, h1.FunFrames B l → (∀ b ∈ frs l, b ≠ C) → h2.FunFrames B2 l
  | [], _, _ => trivial
  | env :: l, h, hc => by
    obtain ⟨hk, ⟨L, o, hf, hnn, ho, hd⟩, hr⟩ := h
    refine ⟨hk, ⟨L, o, hf, hn _ hnn, ?_, hd⟩, frames_but hb hn hr fun b hb => ?_⟩
    · rw [hb L (hc L (List.mem_filterMap.mpr ⟨env, List.mem_cons_self, hf⟩))]
      exact ho
    · obtain ⟨e, he, q⟩ := List.mem_filterMap.mp hb
      exact hc b (List.mem_filterMap.mpr ⟨e, List.mem_cons_of_mem _ he, q⟩)
section
variable {X : Cx} {pins : List (Addr × Obj)} {σ : L2.St} {H : Hp} {s s1 : Shared} {E : XK}
/-- an exception of a call goes out of the block: its variables are let go, then it's in the air of the def -/
theorem comp_exc (hs : X.stack = X.env :: X.outer) (hf : X.env.frame = some X.env.locals) (tk : Takes X (fun cls d _ H => E cls d H)) (I : Inv X pins σ H s) {u : Value} (c : L2.CX X.prog X.w X.stack H s E u s1) {C : Addr} {m : Str → Option Value} (hn : s.heap.Ns C m)
    (hC : FpOk X pins H C) {ce : Env} (hce : ce.frame = X.env.frame) {R : Value → Shared → Prop} :
    wpAny (model X.prog X.w) X.A (noteFrame u ce) (fun _ s2 => ∃ m, s2.heap.Ns C m ∧ ∀ h', Heap.SameBut C s2.heap h' → wpAny (model X.prog X.w) X.A (passOn "comprehension.variables-let-go" u ce : Sem Value) (fun _ _ => False) X.xe { s2 with heap := h' }) R s1 := by
  obtain ⟨a, B, H2, cls, d, rfl, fl, hok, ub, na, os, ag, hE⟩ := c
  obtain ⟨hC0, hC1, hC2, hC3, hC4, hC5⟩ := hC
  have hfr : X.A.frames = some (X.env :: X.outer) := by rw [I.ok.frames, hs]
  have fl' : HandSPX.FlyingZ B (X.env :: X.outer) a (Zc cls d) s1.heap := by rw [← hs]; exact fl
  have nfs : C ∉ frs X.stack := fun hm => (List.mem_cons.mp (I.stkSub C hm)).elim hC1 hC2
  obtain ⟨oC, es, ep, hoC, hdC, hsk, hnm⟩ := id hn
  have hBC : B.get? C = some oC := ub.keep C oC hoC hC0 nfs
  have hH2C : H2 C = none := ub.free C oC hoC hC0
  have n1 : s1.heap.Ns C m := ⟨oC, es, ep, fl.1 C oC hBC, hdC, hsk, hnm⟩
  rw [noteFrame_eq hce]
  refine HandSPX.looks_onZ Zc.steady hfr hf fl' fun h1 held up => ⟨m, up.ns n1, fun h' sb => ?_⟩
  obtain ⟨k1, k2, k3, oe, vs, T, oT, ts, he, hz, hd, h1f, hnT, hTe, hT, hdT, h3⟩ := held
  obtain ⟨slC, hCh1⟩ := up C oC (fl.1 C oC hBC) (fun vs q => by rw [hdC] at q; cases q)
  have sb' : ∀ b, b ≠ C → h'.get? b = h1.get? b := fun b hb => sb.2 b hb
  obtain ⟨B2, b1, b2⟩ := restrict B fun b => decide (b ≠ C)
  have bK : ∀ b o, B2.get? b = some o → b ≠ C ∧ B.get? b = some o := fun b o e => by
    by_cases q : b = C
    · rw [b2 b (by simp [q])] at e; cases e
    · rw [b1 b (by simp [q])] at e; exact ⟨q, e⟩
  have bG : ∀ b o, b ≠ C → B.get? b = some o → B2.get? b = some o := fun b o q e => by rw [b1 b (by simp [q])]; exact e
  have bN : ∀ b, B.get? b = none → B2.get? b = none := fun b e => by
    cases q : B2.get? b with
    | none => rfl
    | some o => rw [(bK b o q).2] at e; cases e
  have nfC : ∀ b ∈ frs X.stack, b ≠ C := fun b hb z => nfs (by rw [← z]; exact hb)
  have aC : a ≠ C := fun z => by
    rw [z, hCh1] at he
    cases he
    rw [show ({ oC with slots := slC } : Obj).data = oC.data from rfl, hdC] at hd
    cases hd
  have TC : T ≠ C := fun z => by
    rw [z, hCh1] at hT
    cases hT
    rw [show ({ oC with slots := slC } : Obj).data = oC.data from rfl, hdC] at hdT
    cases hdT
  have held' : HandSPX.HeldZ B2 (X.env :: X.outer) a (Zc cls d) X.env.locals h' :=
    ⟨fun b o e => by
      obtain ⟨q, e2⟩ := bK b o e
      rw [sb' b q]
      exact k1 b o e2, bN a k2, frames_but sb' bN k3 (by rw [← hs]; exact nfC), oe, vs, T, oT, ts, by rw [sb' a aC]; exact he, hz, hd, h1f, bN T hnT, hTe, by rw [sb' T TC]; exact hT, hdT, h3⟩
  unfold PySem.passOn
  refine wpAny_bind (wpAny_field (by rw [sb' a aC]; exact he) hd h1f ?_)
  rw [if_neg (show ¬ ((Value.ref T == Value.none) = true) from by simp)]
  rw [hce, hf]
  refine wpAny_bind (HandSPX.setFlight_onZ held' fun h2 held2 up2 => wpAny_throw (tk _ _ ?_))
  have held2' : HandSPX.HeldZ B2 X.stack a (Zc cls d) X.env.locals h2 := by rw [hs]; exact held2
  have st : B2.StaysIn h2 := held2.1
  obtain ⟨G, g1, g2⟩ := restrict h2 fun b => (B2.get? b).isSome || decide (b ∈ frs X.stack)
  have gB : ∀ b o, B2.get? b = some o → G.get? b = some o := fun b o e => by
    rw [g1 b (by simp [e])]
    exact st b o e
  have gF : ∀ b, b ∈ frs X.stack → G.get? b = h2.get? b := fun b hb => g1 b (by simp [hb])
  have og : ∀ b o, G.get? b = some o → h2.get? b = some o ∧ ((B2.get? b).isSome = true ∨ b ∈ frs X.stack) := fun b o e => by
    cases q : ((B2.get? b).isSome || decide (b ∈ frs X.stack)) with
    | false => rw [g2 b q] at e; cases e
    | true =>
      rw [g1 b q] at e
      exact ⟨e, by simpa [Bool.or_eq_true] using q⟩
  have frm : ∀ b o, s.heap.get? b = some o → b ∈ frs X.stack → ∃ sl, G.get? b = some { o with slots := sl } := fun b o e hb => by
    obtain ⟨_, o', e', hdb⟩ := I.stack.mem hb
    rw [e] at e'
    cases e'
    obtain ⟨sl, q⟩ := ub.slot b o e hb
    obtain ⟨sl1, q1⟩ := up b _ q hdb
    have q2 : h'.get? b = some { o with slots := sl1 } := by rw [sb' b (nfC b hb)]; exact q1
    obtain ⟨sl2, q3⟩ := up2 b _ q2 hdb
    exact ⟨sl2, by rw [gF b hb]; exact q3⟩
  refine ⟨a, B2, { s with heap := G, gens := s1.gens, drawn := s1.drawn, toks := s1.toks }, pins, σ, H2, cls, d, rfl, ?_, fun b o e hb => ?_, Heap.UpToSlots.of_keeps fun b o e => (og b o e).1, .inr (.inr held2'), na, os, ag, hE⟩
  · refine I.call (ch := [C]) ⟨fun b o e n hb hx => gB b o (bG b o (by simpa using hx) (ub.keep b o e n hb)), fun b o e n hb _ => frm b o e hb, fun b o e n _ => ub.free b o e n, fun b o e hx => ?_, ub.tups, ub.frzs, ub.tbls⟩ (fun b o q => ?_) ag (fun b hb => ?_)
    · by_cases hb : b ∈ frs X.stack
      · obtain ⟨sl, q⟩ := frm b o e hb
        exact ⟨_, q⟩
      · obtain ⟨o', q⟩ := ub.there b o e hb
        exact ⟨o', gB b o' (bG b o' (by simpa using hx) q)⟩
    · refine (hok b o q).stay (fun c v hc r => gB c v (bG c v (fun z => ?_) r)) (fun _ r => r) fun _ _ r => r
      rcases hc with hc | hc
      · rw [← hc, z, hH2C] at q; cases q
      · rw [z, hH2C] at hc; cases hc
    · have e : b = C := by simpa using hb
      rw [e]
      exact ⟨hC3, hC1, hC4, hC5⟩
  · obtain ⟨e', h⟩ := og b o e
    rcases h with h | h
    · obtain ⟨o', q⟩ := Option.isSome_iff_exists.mp h
      have z := st b o' q
      have e'' : h2.get? b = some o := e'
      rw [e''] at z
      cases z
      exact q
    · exact absurd h hb
end
end Lp
namespace PySem
section
variable {M : Model} {A : Around} {E : Value → Shared → Prop} {s : Shared} {env : Env}
/-- behind the block: as compPost has it, an exception with the block's own environment -/
def compPostX (M : Model) (A : Around) (E : Value → Shared → Prop) (Q : Value → Shared → Prop) (acc : Value) (cenv : Env) (r : Result) (s' : Shared) : Prop :=
  match r with
  | .ok _ => ∃ m, s'.heap.Ns cenv.locals m ∧ ∀ h', Heap.SameBut cenv.locals s'.heap h' → Q acc { s' with heap := h' }
  | .error x => ∃ m, s'.heap.Ns cenv.locals m ∧ ∀ h', Heap.SameBut cenv.locals s'.heap h' → wpAny M A (passOn "comprehension.variables-let-go" x cenv : Sem Value) (fun _ _ => False) E { s' with heap := h' }
theorem comp_freeX {e : Expr} {scope : Scope} {pos : Pos} {newAcc first : Sem Value} {g : Comprehension} {gs : List Comprehension} {cl : List (Str × Addr)} {Q : Value → Shared → Prop}
    (hcl : clausesOf e = g :: gs) (hs : ∀ x, foldedSetIterable g.iter env x = pure x) (hclos : closureFor scope env = pure cl) (hkind : scope.kind = .function) (hnames : ∀ x ∈ scope.names, x.2 = .local → scope.names.lookup x.1 = some .local)
    (h : wpAny M A first (fun x s₁ => wpAny M A (pyIter x) (fun it s₂ => wpAny M A newAcc (fun acc s₃ => wpAny M A (newFunctionEnv scope env.globals cl [] env.qual none .none (some env)) (fun cenv s₄ =>
        codeAny M A (.compStart e 0 it acc { cenv with scope := relabel scope env }) (compPostX M A E Q acc { cenv with scope := relabel scope env }) s₄) E s₃) E s₂) E s₁) E s) :
    wpAny M A (comprehension e scope env pos newAcc false first none) Q E s := by
  unfold comprehension
  rw [hclos, hcl]
  refine wpAny_bind (wpAny_mono h (fun x s₁ h₁ => wpAny_bind (wpAny_standAt (wpAny_bind (wpAny_of_eq (hs x) (wpAny_bind (wpAny_holding (wpAny_mono h₁ (fun it s₂ h₂ =>
    wpAny_standIf (wpAny_bind (wpAny_mono h₂ (fun acc s₃ h₃ => wpAny_bind (wpAny_pure (wpAny_bind (wpAny_mono h₃ (fun cenv s₄ h₄ => ?_) fun _ _ h' => h')))) fun _ _ h' => h'))) fun _ _ h' => h'))))))) fun _ _ h' => h')
  dsimp only
  have hv : ∀ x ∈ (scope.names.filter fun x => (x.2 == .local || x.2 == .cell) && x.1 != (".0" : Str)).reverse, x.2 = .local → Env.kindOf { cenv with scope := relabel scope env } x.1 = some .local :=
    fun x hx hl => lookup_relabel_local (hnames x (List.mem_filter.mp (List.mem_reverse.mp hx)).1 hl)
  refine wpAny_holding (wpAny_bind (wpAny_attempt (wpAny_holding (wpAny_run (codeAny_mono h₄ fun r s' hr => ?_)))))
  cases r with
  | ok f =>
    obtain ⟨m, hn, hr⟩ := hr
    exact wpAny_bind (wpAny_holding (wpAny_comp_letGo (cenv := { cenv with scope := relabel scope env }) hkind _ s' m hv hn fun h' m' _ hs' => wpAny_pure (hr h' hs')))
  | error x =>
    obtain ⟨m, hn, hr⟩ := hr
    exact wpAny_bind (wpAny_holding (wpAny_comp_letGo (cenv := { cenv with scope := relabel scope env }) hkind _ s' m hv hn fun h' m' _ hs' => wpAny_mono (hr h' hs') (fun _ _ f => f.elim) fun _ _ y => y))
end
end PySem
namespace Lp
open PySem PySem.Spec PyProof.Rows L2
open PySem.W (Frag)
section
variable {X : Cx} {E : XK}
/-- a context with another wish about exceptions -/
abbrev wsh (X : Cx) (xe : Value → Shared → Prop) : Cx := { X with xe := xe }
theorem pe_lcX {elt tg iter : Expr} {ifs : List Expr} {scope : Scope} {own : List (Str × Nat)} {pos : Pos} {wi : TI} {g : TG} {tt : TT} {te : TE} (hc : X.calm = true) (hN : X.N.Nodup) (hst : X.stack = X.env :: X.outer) (hfr : X.env.frame = some X.env.locals)
    (tk : Takes X (fun cls d _ H => E cls d H)) (hi : PI X tg iter wi) (ok : BlkOk X.N X.env.scope scope own)
    (hg : ∀ (s : Shared) (H : Hp) (C : Addr) (cl : List (Str × Addr)) (fp : List Addr), PG (X.blk s H scope (compEnvC scope cl C X.env) fp) tg g) (ht : ∀ (s : Shared) (H : Hp) (C : Addr) (cl : List (Str × Addr)) (fp : List Addr), PTs (X.blk s H scope (compEnvC scope cl C X.env) fp) ifs tt)
    (he : ∀ (s : Shared) (H : Hp) (C : Addr) (cl : List (Str × Addr)) (fp : List Addr) (xe : Value → Shared → Prop), Passes (L2.CX X.prog X.w) (wsh (X.blk s H scope (compEnvC scope cl C X.env) fp) xe) E → PE (wsh (X.blk s H scope (compEnvC scope cl C X.env) fp) xe) elt te)
    (hs : ∀ x, foldedSetIterable iter X.env x = pure x := by intro _; rfl) : PE X (.ListComp elt [⟨tg, iter, ifs, 0⟩] scope pos) (tLc wi g tt te (own.map (·.2))) := by
  refine ⟨fun pins s σ H Q I h => ?_⟩
  rw [eval_ListComp]
  have hfree : ∀ y ∈ scope.names, y.2 = .free → ∃ c, X.env.cells.lookup y.1 = some c := fun y hy e => by
    rcases ok.free y hy e with k | k
    · exact I.ok.has _ (.inl k)
    · exact I.ok.has _ (.inr k)
  refine comp_freeX rfl hs (closure_ok hfree) ok.kind (fun y hy e => by rw [ok.uniq y hy, e]) (thn (hi.run pins s σ H _ I h) fun xv s1 hx => thn hx fun itv s2 h2 => ?_)
  obtain ⟨it, fp, tn, J, H2, e, I2, T, st2, f2, q⟩ := h2
  subst e
  refine wpAny_newObj_type (newEnv_comp ?_) (by show 0 ≤ sizeLine; decide)
  generalize hD : s2.heap.objs.size = D
  have hDn : H2 D = none := I2.hok.fresh (Nat.le_of_eq hD)
  obtain ⟨W, ⟨m0, w0⟩, turn⟩ := q D hDn
  generalize hs3 : ({ s2 with heap := s2.heap.push { cls := .type "list", data := .seq ([] : List Value).toArray } } : Shared) = s3
  have I3 : Inv X pins σ (upd H2 D (.lst [])) s3 := by
    rw [← hs3]
    refine I2.laid (t' := s2.toks) (fun b o e => Heap.get?_push_of_some _ e) (Nat.le_of_eq hD) ⟨Nat.zero_le _, [], 0, .nil, ?_⟩
    rw [← hD]
    exact Heap.get?_push_size _ rfl
  have h3 : s3.heap = s2.heap.push { cls := .type "list", data := .seq ([] : List Value).toArray } := by rw [← hs3]
  have f3 : ∀ b ∈ fp, FpOk X pins (upd H2 D (.lst [])) b ∧ b < s3.heap.objs.size := fun b hb => by
    obtain ⟨o, e, _⟩ := T.obj _ _ st2 b hb
    have hlt := Heap.lt_size e
    refine ⟨⟨?_, (f2 b hb).2⟩, by rw [h3, Heap.size_push]; exact Nat.lt_succ_of_lt hlt⟩
    rw [upd_ne (by rw [← hD]; exact Nat.ne_of_lt hlt)]
    exact (f2 b hb).1
  have st3 : tn 0 s3.heap := T.keep _ _ _ st2 fun b _ o e => by rw [h3]; exact Heap.get?_push_of_some _ e
  have I4 := block_start I3 ok hN f3
  have pg := hg s3 (upd H2 D (.lst [])) s3.heap.objs.size (cellsFrom (s3.heap.objs.size + 1) scope.names (cloFrom X.env.cells scope.names [])) fp
  have pt := ht s3 (upd H2 D (.lst [])) s3.heap.objs.size (cellsFrom (s3.heap.objs.size + 1) scope.names (cloFrom X.env.cells scope.names [])) fp
  have pe := he s3 (upd H2 D (.lst [])) s3.heap.objs.size (cellsFrom (s3.heap.objs.size + 1) scope.names (cloFrom X.env.cells scope.names [])) fp
  show codeAny _ _ (.compStart (.ListComp elt [⟨tg, iter, ifs, 0⟩] scope pos) 0 (.ref it) (.ref D) (compEnvC scope (cellsFrom (s3.heap.objs.size + 1) scope.names (cloFrom X.env.cells scope.names [])) s3.heap.objs.size X.env))
    (compPostX (model X.prog X.w) X.A X.xe (EP X pins σ Q) (.ref D) (compEnvC scope (cellsFrom (s3.heap.objs.size + 1) scope.names (cloFrom X.env.cells scope.names [])) s3.heap.objs.size X.env)) { s3 with heap := pushCells (s3.heap.push { cls := .type "dict", data := .dict #[] }) scope.names }
  have nfp : ∀ b ∈ fp, (upd H2 D (.lst [])) b = none := fun b hb => (f3 b hb).1.1
  generalize hce : compEnvC scope (cellsFrom (s3.heap.objs.size + 1) scope.names (cloFrom X.env.cells scope.names [])) s3.heap.objs.size X.env = ce at I4 pg pt pe ⊢
  have cL : ce.locals = s3.heap.objs.size := by subst hce; rfl
  have cF : ce.frame = X.env.frame := by subst hce; rfl
  generalize hH3 : upd H2 D (.lst []) = H3 at I3 I4 pg pt pe w0 nfp f3
  generalize hs4 : ({ s3 with heap := pushCells (s3.heap.push { cls := .type "dict", data := .dict #[] }) scope.names } : Shared) = s4 at I4 ⊢
  have st4 : tn 0 s4.heap := T.keep _ _ _ st3 fun b _ o e => by rw [← hs4]; exact pushCells_keeps _ _ _ _ (Heap.get?_push_of_some _ e)
  have stat : ∀ {σ' : L2.St} {H' : Hp} {s' : Shared}, Inv (X.blk s3 H3 scope ce fp) [] σ' H' s' → (∀ b ∈ fp, H' b = none) → ∀ b ∈ fp, FpOk (X.blk s3 H3 scope ce fp) [] H' b := fun {σ' H' s'} I' hn b hb =>
    ⟨hn b hb, (I'.ok.exf b hb).1, I'.ok.exfs b hb, .inl hb, fun x c e => (I'.ok.exf b hb).2 x c e, fun p hp => absurd (show p ∈ ([] : List (Addr × Obj)) ++ [] from hp) (by simp)⟩
  -- back in the def's context
  have back : ∀ {pn' : List (Addr × Obj)} {σ' : L2.St} {H' : Hp} {s' : Shared}, Inv (X.blk s3 H3 scope ce fp) pn' σ' H' s' → Inv X pins σ H' s' ∧ (∃ m, s'.heap.Ns s3.heap.objs.size m) ∧ FpOk X pins H' s3.heap.objs.size := fun {pn' σ' H' s'} I' => by
    have nC : H' s3.heap.objs.size = none := by
      have z : H' ce.locals = none := I'.free
      rw [cL] at z
      exact z
    obtain ⟨m, hn, _⟩ := I'.loc
    have hn : s'.heap.Ns ce.locals m := hn
    rw [cL] at hn
    exact ⟨I3.call' (ch := fp) I'.os I'.base I'.hok I'.bare fun b hb => ⟨(f3 b hb).1.2.2.2.1, (f3 b hb).1.2.1, (f3 b hb).1.2.2.2.2.1, (f3 b hb).1.2.2.2.2.2⟩, ⟨m, hn⟩, I3.fpOk (Nat.le_refl _) nC⟩
  -- what the element may let out
  have pass : Passes (L2.CX X.prog X.w) (wsh (X.blk s3 H3 scope ce fp) (notedBy (model X.prog X.w) X.A ce fun e s' => compPostX (model X.prog X.w) X.A X.xe (EP X pins σ Q) (.ref D) ce (.error e) s')) E := by
    intro pn' σ' H' s' e s'' I' c
    obtain ⟨J, ⟨m, hn⟩, hf⟩ := back (Inv.wish (X := X.blk s3 H3 scope ce fp) (show Inv (X.blk s3 H3 scope ce fp) pn' σ' H' s' from Inv.unwish (X := X.blk s3 H3 scope ce fp) I') (fun _ _ => False))
    have z := comp_exc (R := fun e s' => compPostX (model X.prog X.w) X.A X.xe (EP X pins σ Q) (.ref D) ce (.error e) s') hst hfr tk J c hn hf cF
    show wpAny _ _ (noteFrame e ce) _ _ s''
    refine wpAny_mono z (fun _ s5 hz => ?_) fun _ _ y => y
    obtain ⟨m5, hn5, h5⟩ := hz
    exact ⟨m5, by rw [cL]; exact hn5, fun h' sb => h5 h' (by rw [← cL]; exact sb)⟩
  have loop : codeAny (model X.prog X.w) X.A (.compLoop (.ListComp elt [⟨tg, iter, ifs, 0⟩] scope pos) 0 (.ref it) (.ref D) ce) (compPostX (model X.prog X.w) X.A X.xe (EP X pins σ Q) (.ref D) ce) s4 := by
    refine compLoop_any (fun n s' => ∃ i H', Inv (X.blk s3 H3 scope ce fp) [] (wipe σ (own.map (·.2))) H' s' ∧ tn i s'.heap ∧ (∀ b ∈ fp, H' b = none) ∧ W i n H') ?_ m0 ⟨0, H3, I4, st4, nfp, w0⟩
    rintro n s5 ⟨i, H5, I5, st5, n5, w5⟩
    rcases turn i n H5 w5 with ⟨stop, qq⟩ | ⟨go, Nx, hNx, step⟩
    · refine thnF (T.done (X.blk s3 H3 scope ce fp) rfl rfl rfl hc i [] s5 _ H5 (fun _ _ => False) I5 (stat I5 n5) st5 stop) fun r s6 ⟨hr, I6⟩ => ?_
      subst hr
      obtain ⟨I7, ⟨m, hn⟩, f0, f1, f2, f3, f4, f5⟩ := back I6
      refine ⟨m, by rw [cL]; exact hn, fun h'' sb => ?_⟩
      rw [cL] at sb
      exact ⟨.ref D, H5, I7.turned (t' := s6.toks) (fun b o hb e => (sb.2 b hb).trans e) f0 f1 f3 f4 f5, rfl, qq⟩
    · refine thnF (T.item (X.blk s3 H3 scope ce fp) rfl rfl rfl hc i [] s5 _ H5 (fun _ _ => False) I5 (stat I5 n5) st5 go) fun r s6 ⟨u, hr, h6⟩ => ?_
      subst hr
      refine thnF h6 fun _ s7 ⟨x, H7, I7, r7, y7, st7, n7⟩ => ?_
      have I7' := I7.pinned (stat I7 n7) (T.obj _ _ st7)
      refine thnF (pg.run _ s7 _ H7 x u _ I7' r7 (step x H7 y7)) fun _ s8 ⟨σ8, H8, I8, hw8, q8⟩ => ?_
      refine thnF (pt.run _ s8 σ8 H8 _ I8 q8) fun b s9 ⟨H9, I9, q9⟩ => ?_
      have fin : ∀ {s' : Shared} {H' : Hp}, Inv (X.blk s3 H3 scope ce fp) ([] ++ pinsAt fp s7.heap) σ8 H' s' → Nx H' → ∃ m, m < n ∧ ∃ i H', Inv (X.blk s3 H3 scope ce fp) [] (wipe σ (own.map (·.2))) H' s' ∧ tn i s'.heap ∧ (∀ b ∈ fp, H' b = none) ∧ W i m H' := fun {s' H'} I' nx => by
        obtain ⟨m', hm, w'⟩ := hNx H' nx
        have pin' : ∀ b ∈ fp, ∀ o, s7.heap.get? b = some o → s'.heap.get? b = some o ∧ H' b = none := fun b hb o e =>
          let z := I'.pin (b, o) (List.mem_append_right _ (List.mem_append_right _ (mem_pinsAt hb e)))
          ⟨z.1, z.2.1⟩
        have hl : (wipe σ (own.map (·.2))).length = σ8.length := by rw [← hw8, wipe_length]
        refine ⟨m', hm, i + 1, H', (I'.unpinned (pins := [])).weak hl (fun j v e => ?_), T.keep _ _ _ st7 fun b hb o e => (pin' b hb o e).1, fun b hb => ?_, w'⟩
        · rw [← hw8] at e
          exact (wipe_some e).1
        · obtain ⟨o, e, _⟩ := T.obj _ _ st7 b hb
          exact (pin' b hb o e).2
      cases b with
      | false =>
        simp only [Bool.false_eq_true, if_false] at q9 ⊢
        exact fin I9 q9
      | true =>
        simp only [if_true] at q9 ⊢
        refine thn ((pe _ pass).run _ s9 σ8 H9 _ (Inv.wish (X := X.blk s3 H3 scope ce fp) I9 _) q9) fun z s10 ⟨yv, H10, I10, r10, acc, hD10, hz10, nx⟩ => ?_
        exact app_ok (X := X.blk s3 H3 scope ce fp) (Inv.unwish (X := X.blk s3 H3 scope ce fp) I10) hD10 hz10 r10 fun s11 I11 => fin I11 nx
  exact codeAny_compStart_list loop (T.self X.A 0 _ _ _ st4 loop)
end
end Lp
end
section
set_option maxHeartbeats 4000000
/-! ### calls -/
namespace Lp
open PySem PySem.Spec PyProof.Rows L2
open PySem.W (Frag)
open VasedBase (Bytes word)
open Vaseda (Line Text Cmd Deed Script)
open Vasedc (Op Patch)
/-- rows of bytes at the addresses that a list holds -/
def LRow (H : Hp) (a : Addr) (rs : List Bytes) : Prop := ∃ as, H a = some (.lst (as.map V.ref)) ∧ Paired (fun (b : Bytes) x => H x = some (.lst (vB b))) rs as
/-- what is due of a call: its numbers, or the number by which it's refused -/
def textsE (c : Int) (rs : List Bytes) : Except Int (List Int) := match rs.mapM Vaseda.readText with
  | none => .error (-4)
  | some ts => match textsL c ts with
    | none => .error (-6)
    | some l => .ok l
def runE (o : Option Script) (b : Bytes) : Except Int Patch := match o with
  | none => .error (-1)
  | some s => match Vaseda.readText b with
    | none => .error (-4)
    | some t => match (Vaseda.run s t).map Vaseda.outText with
      | none => .error (-7)
      | some u => .ok (Vasedc.patch t u)
def scriptE (p : Patch) : Except Int (List Int) := match scriptL p with
  | none => .error (-6)
  | some l => .ok l
def loadL (b : Bytes) : List Int := match Vaseda.read b with
  | .ok s => [1, (s.length : Int)]
  | .error f => [0, (f.code : Int), (f.place : Int)]
def toldE (o : Option Script) (c : Int) (rs : List Bytes) : Except Int (List Int) := match rs with
  | [b] => if c = 0 then .ok (loadL b) else if c = 2 then (runE o b).map fun p => ansL (Vasedc.patchAnswer p) else (runE o b).bind fun p => scriptE (Vasedc.turned p)
  | rs => textsE c rs
/-- what becomes of the script -/
def toldO (o : Option Script) (c : Int) (rs : List Bytes) : Option Script := match rs with
  | [b] => if c = 0 then (match Vaseda.read b with
    | .ok s => some s
    | .error _ => o) else o
  | _ => o
/-- a call's rows are as many as it has -/
def RowsOk (c : Int) (rs : List Bytes) : Prop := (rs.length = 1 ∧ (c = 0 ∨ c = 2 ∨ c = 4)) ∨ (rs.length = 2 ∧ (c = 1 ∨ c = 3 ∨ c = 7)) ∨ (rs.length = 3 ∧ (c = 5 ∨ c = 6))
theorem mapM_len {α β : Type} {f : α → Option β} : ∀ {l : List α} {r : List β}, l.mapM f = some r → r.length = l.length
  | [], r, h => by
    have h : some [] = some r := h
    cases h
    rfl
  | x :: l, r, h => by
    rw [List.mapM_cons] at h
    cases hx : f x with
    | none => rw [hx] at h; cases h
    | some y =>
      rw [hx] at h
      cases hl : l.mapM f with
      | none => rw [hl] at h; cases h
      | some ys =>
        rw [hl] at h
        cases h
        rw [List.length_cons, List.length_cons, mapM_len hl]
theorem mapM_none {α β : Type} {f : α → Option β} : ∀ {pre post : List α} {x : α}, f x = none → (pre ++ x :: post).mapM f = none
  | [], post, x, h => by
    rw [List.nil_append, List.mapM_cons, h]
    rfl
  | y :: pre, post, x, h => by
    rw [List.cons_append, List.mapM_cons, mapM_none h]
    cases f y <;> rfl
theorem mapM_snoc {α β : Type} {f : α → Option β} : ∀ {pre : List α} {x : α} {ys : List β} {y : β}, pre.mapM f = some ys → f x = some y → (pre ++ [x]).mapM f = some (ys ++ [y])
  | [], x, ys, y, h, hx => by
    have h : some [] = some ys := h
    cases h
    rw [List.nil_append, List.mapM_cons, hx]
    rfl
  | z :: pre, x, ys, y, h, hx => by
    rw [List.mapM_cons] at h
    cases hz : f z with
    | none => rw [hz] at h; cases h
    | some v =>
      rw [hz] at h
      cases hl : pre.mapM f with
      | none => rw [hl] at h; cases h
      | some vs =>
        rw [hl] at h
        cases h
        rw [List.cons_append, List.mapM_cons, hz, mapM_snoc hl hx]
        rfl
section
variable {P : Program} {w : World} {K : Frag} {mg : Str → Option Value} {base : Heap}
abbrev s_told : Stmt := topS 106
theorem sc_told : FnScope ["desk", "call", "rows", "row"] ["desk", "call", "rows"] (defScope s_told) := ⟨rfl, rfl, rfl, by decide +kernel, rfl, by decide +kernel, by decide +kernel⟩
def spToldC (K : Frag) : Sp := fun vs H Q E => ∃ (S : List Addr) (dk ra : Addr) (c : Int) (rs : List Bytes) (o : Option Script), vs = [.ref dk, .int c, .ref ra] ∧ (∀ x ∈ S, H x ≠ none) ∧ dk ∉ S ∧ DkAt K (hidS S H) dk o ∧ LRow H ra rs ∧ (∀ b ∈ rs, b.length ≤ 100000) ∧ RowsOk c rs ∧
  (∀ l, toldE o c rs = .ok l → ∀ r H', FrS [dk] H H' → DkAt K (hidS S H') dk (toldO o c rs) → H' r = some (.lst (vI l)) → H r = none → Q (.ref r) H') ∧
  (∀ n, toldE o c rs = .error n → ∀ d H', Same H H' → H' d = some (.xd [("number", .int n)]) → E (.ref (cA K "Refused")) (some d) H')
theorem ok_told (A : FnAt K mg "told" s_told ["desk", "call", "rows"]) (T : Txt K mg) (D_Desk_load : Dm P w K mg base CX0 10 (cA K "Desk") "load" ["self", "data"] (spLoad K)) (D_Desk_patch_of : Dm P w K mg base (L2.CX P w) 7 (cA K "Desk") "patch_of" ["self", "data"] (spPatchOf K))
    (D_patch_told : Dn P w K mg base CX0 2 "patch_told" ["marks"] spPTold) (D_script_told : Dn P w K mg base (L2.CX P w) 4 "script_told" ["marks"] (spSTold K)) (D_turned_round : Dn P w K mg base CX0 1 "turned_round" ["marks"] spTurned)
    (D_of_texts : Dn P w K mg base (L2.CX P w) 5 "of_texts" ["call", "texts"] (spOfT K)) (D_lines_of : Dn P w K mg base (L2.CX P w) 4 "lines_of" ["data"] (spLines K)) :
    Dn P w K mg base (L2.CX P w) 11 "told" ["desk", "call", "rows"] (spToldC K) := A.dn fun f fd F => by
  refine okX F sc_told (fun vs H Q E h => ?_) (fun cdv A outer s H vs Q E hr h => ?_)
  · obtain ⟨_, _, _, _, _, _, rfl, _⟩ := h
    rfl
  obtain ⟨S, dk, ra, c, rs, o, rfl, hS, nS, hdkS, ⟨as, hra, hrs⟩, hz, hc, k1, k2⟩ := h
  have hdk : DkAt K H dk o := hdkS.mono (hidS_same S H)
  obtain ⟨dx, v, hdk1, hdk2⟩ := id hdk
  refine ⟨_, (pss_cons (ps_if (pt_cmpR op_eq (pv 1) (pe_gint T.g_LOAD) (nomark _))
      (pss_one (ps_ret (pe_m D_Desk_load T.cl_Desk (hr.mono (by decide)) pass0 (pv 0) (pa_cons (pe_ix ix_list (pv 2) pe_int (fun _ _ => rfl)) pa_nil))))
      pss_nil)
      (pss_cons (ps_if (pt_cmpR op_eq (pv 1) pe_int (nomark _))
      (pss_one (ps_ret (pe_f D_patch_told (hr.mono (by decide)) pass0 (pa_cons (pe_m D_Desk_patch_of T.cl_Desk (hr.mono (by decide)) (passes_call (takes_of rfl rfl rfl rfl) (fun _ _ _ _ h => h)) (pv 0) (pa_cons (pe_ix ix_list (pv 2) pe_int (fun _ _ => rfl)) pa_nil)) pa_nil))))
      pss_nil)
      (pss_cons (ps_if (pt_cmpR op_eq (pv 1) pe_int (nomark _))
      (pss_one (ps_ret (pe_f D_script_told (hr.mono (by decide)) (passes_call (takes_of rfl rfl rfl rfl) (fun _ _ _ _ h => h)) (pa_cons (pe_f D_turned_round (hr.mono (by decide)) pass0 (pa_cons (pe_m D_Desk_patch_of T.cl_Desk (hr.mono (by decide)) (passes_call (takes_of rfl rfl rfl rfl) (fun _ _ _ _ h => h)) (pv 0) (pa_cons (pe_ix ix_list (pv 2) pe_int (fun _ _ => rfl)) pa_nil)) pa_nil)) pa_nil))))
      pss_nil)
      (pss_one (ps_ret (pe_f D_of_texts (hr.mono (by decide)) (passes_call (takes_of rfl rfl rfl rfl) (fun _ _ _ _ h => h)) (pa_cons (pv 1) (pa_cons (by exact (pe_lcX (own := [("row", 3)]) (by rfl) sc_told.nd rfl rfl (takes_of rfl rfl rfl rfl) (pi_list (pv 2)) (blkOk_by (own := [("row", 3)]) (N := ["desk", "call", "rows", "row"]) (sc := defScope s_told) (by decide +kernel)) (fun _ _ _ _ _ => by exact (pg_name (i := 3) sc_told.nd rfl (Or.inl rfl))) (fun _ _ _ _ _ => pts_nil) (fun _ _ _ _ _ xe hx => by exact (pe_f D_lines_of (hr.mono (by decide)) hx (pa_cons (pv 3) pa_nil))))) pa_nil)))))))), ?_⟩
  rcases hc with ⟨e1, hc⟩ | hc
  · obtain ⟨b, rfl⟩ : ∃ b, rs = [b] := by
      match rs, e1 with
      | [b], _ => exact ⟨b, rfl⟩
    obtain ⟨x0, rfl, hb⟩ : ∃ x0, as = [x0] ∧ H x0 = some (.lst (vB b)) := by
      cases hrs with
      | cons h1 h2 =>
        cases h2
        exact ⟨_, rfl, h1⟩
    have zb := hz b (by simp)
    have pat : ∀ (Q' : VK), (∀ p, runE o b = .ok p → p.length ≤ 84 → (∀ m ∈ p, (Vasedc.lineIn m).length ≤ 16) → ∀ r H', Same H H' → MkAt H' r p → Q' (.ref r) H') → (∀ n, runE o b = .error n → RefE K E H n) → PatR K H Q' E b o := by
      intro Q' q1 q2
      cases o with
      | none => exact q2 (-1) rfl
      | some s =>
        refine ⟨fun hn => q2 (-4) (by unfold runE; rw [hn]), fun t ht => ⟨fun hn => q2 (-7) (by unfold runE; rw [ht]; show (match (Vaseda.run s t).map Vaseda.outText with | none => _ | some u => _) = _; rw [hn]), fun u hu lu lx r H' s' hm => ?_⟩⟩
        have tl := read_ok ht
        have lp := patch_len t u
        refine q1 (Vasedc.patch t u) (by unfold runE; rw [ht]; show (match (Vaseda.run s t).map Vaseda.outText with | none => _ | some u => _) = _; rw [hu]) (by omega) (fun m hm => ?_) r H' s' hm
        rw [← pFrom_zero] at hm
        rcases pFrom_lines t u _ 0 0 rfl m hm with h | h
        · exact tl.2 _ h
        · exact lx _ h
    rcases hc with rfl | rfl | rfl
    · refine ⟨_, rfl, rfl, _, rfl, if_yes rfl ?_⟩
      refine ⟨_, rfl, dk, dx, _, rfl, hdk1, nl_Desk_load, _, rfl, ra, _, _, _, rfl, rfl, .of hra, rfl, S, dk, x0, b, o, rfl, hS, nS, hdkS, hb, zb, fun s hs r H' fr hd' hr' hn' => ?_, fun f hf r H' fr hd' hr' hn' => ?_⟩
      · refine k1 (loadL b) rfl r H' fr ?_ ?_ hn'
        · show DkAt K (hidS S H') dk (match Vaseda.read b with | .ok s => some s | .error _ => o)
          rw [hs]
          exact hd'
        · unfold loadL
          rw [hs]
          exact hr'
      · refine k1 (loadL b) rfl r H' fr ?_ ?_ hn'
        · show DkAt K (hidS S H') dk (match Vaseda.read b with | .ok s => some s | .error _ => o)
          rw [hf]
          exact hd'
        · unfold loadL
          rw [hf]
          exact hr'
    · refine ⟨_, rfl, rfl, _, rfl, if_no rfl ?_⟩
      refine ⟨_, rfl, rfl, _, rfl, if_yes rfl ?_⟩
      refine ⟨_, rfl, dk, dx, _, rfl, hdk1, nl_Desk_patch_of, _, rfl, ra, _, _, _, rfl, rfl, .of hra, rfl, dk, x0, b, o, rfl, hdk, hb, zb, pat _ (fun p hp lp lx r H' s' hm => ?_) fun n hn => ?_⟩
      · refine ⟨r, p, rfl, hm, by omega, fun m hm => Nat.le_trans (lx m hm) (by decide), fun r2 H2 s2 hn2 hr2 => k1 _ ?_ r2 H2 ((FrS.refl _ _).new (s'.trans s2)) (hdkS.mono (hidS_mono (s'.trans s2))) hr2 (s'.free hn2)⟩
        show (runE o b).map _ = _
        rw [hp]
        rfl
      · refine fun d H' s' hd => k2 n ?_ d H' s' hd
        show (runE o b).map _ = _
        rw [hn]
        rfl
    · refine ⟨_, rfl, rfl, _, rfl, if_no rfl ?_⟩
      refine ⟨_, rfl, rfl, _, rfl, if_no rfl ?_⟩
      refine ⟨_, rfl, rfl, _, rfl, if_yes rfl ?_⟩
      refine ⟨_, rfl, dk, dx, _, rfl, hdk1, nl_Desk_patch_of, _, rfl, ra, _, _, _, rfl, rfl, .of hra, rfl, dk, x0, b, o, rfl, hdk, hb, zb, pat _ (fun p hp lp lx r H' s' hm => ?_) fun n hn => ?_⟩
      · refine ⟨r, p, rfl, hm, by omega, fun r2 H2 s2 hm2 => ?_⟩
        have e1 : (Vasedc.turned p).length = p.length := by rw [turned_map, List.length_map]
        have e2 : LnOk (Vasedc.turned p) := fun m hm => by
          rw [turned_map] at hm
          obtain ⟨m0, h0, rfl⟩ := List.mem_map.mp hm
          have := lx m0 h0
          cases m0 <;> exact Nat.le_trans this (by decide)
        have e3 : toldE o 4 [b] = scriptE (Vasedc.turned p) := by
          show (runE o b).bind _ = _
          rw [hp]
          rfl
        refine ⟨r2, _, rfl, hm2, by omega, e2, fun l hl r3 H3 s3 hr3 hn3 => k1 l ?_ r3 H3 ((FrS.refl _ _).new ((s'.trans s2).trans s3)) (hdkS.mono (hidS_mono ((s'.trans s2).trans s3))) hr3 ((s'.trans s2).free hn3), fun hl => fun d H3 s3 hd => k2 (-6) ?_ d H3 ((s'.trans s2).trans s3) hd⟩
        · rw [e3]
          unfold scriptE
          rw [hl]
        · rw [e3]
          unfold scriptE
          rw [hl]
      · refine fun d H' s' hd => k2 n ?_ d H' s' hd
        show (runE o b).bind _ = _
        rw [hn]
        rfl
  · have eT : toldE o c rs = textsE c rs ∧ toldO o c rs = o := by
      rcases hc with ⟨e2, _⟩ | ⟨e2, _⟩
      · match rs, e2 with
        | [_, _], _ => exact ⟨rfl, rfl⟩
      · match rs, e2 with
        | [_, _, _], _ => exact ⟨rfl, rfl⟩
    have hc' : (rs.length = 2 ∧ (c = 1 ∨ c = 3 ∨ c = 7)) ∨ (rs.length = 3 ∧ (c = 5 ∨ c = 6)) := hc
    have n0 : c ≠ 0 ∧ c ≠ 2 ∧ c ≠ 4 := by omega
    have nt : ∀ i : Int, c ≠ i → decide (V.int c = V.int i) = false := fun i h => decide_eq_false fun z => h (by injection z)
    refine ⟨_, rfl, rfl, _, rfl, if_no (nt 0 n0.1) ?_⟩
    refine ⟨_, rfl, rfl, _, rfl, if_no (nt 2 n0.2.1) ?_⟩
    refine ⟨_, rfl, rfl, _, rfl, if_no (nt 4 n0.2.2) ?_⟩
    rw [eT.1] at k1 k2
    rw [eT.2] at k1
    have lrs := Paired.length hrs
    refine ⟨_, rfl, _, rfl, ra, rfl, ⟨_, .of hra⟩, fun D hD => lc_it walk_list (fun i H' => Same H H' ∧ ∃ (ts : List Text) (xs : List Addr), (rs.take i).mapM Vaseda.readText = some ts ∧ (∀ t ∈ ts, TxLt t) ∧ H' D = some (.lst (xs.map V.ref)) ∧ xs.length = i ∧ Paired (fun (t : Text) x => hid D H' x = some (.lst (vT t))) ts xs)
      ⟨(Same.refl H).new hD, [], [], rfl, (fun t ht => nomatch ht), upd_same, rfl, .nil⟩ (fun i H' _ h => .of (h.1 _ _ hra)) ?_ ?_⟩
    · rintro i x H' H'' hi ⟨s1, ts, xs, hm, htl, hl, lx, hp⟩ ⟨rfl, ex⟩
      rw [List.getElem?_map] at ex
      obtain ⟨y, ey, rfl⟩ := Option.map_eq_some_iff.mp ex
      obtain ⟨b, eb, hb⟩ := Paired.at hrs ey
      have hbm := List.mem_of_getElem? eb
      rw [List.length_map] at hi
      refine ⟨rfl, yes ⟨_, rfl, y, b, rfl, s1 _ _ hb, hz b hbm, fun t ht r H5 s5 hn5 hr5 => ?_, fun hn => ?_⟩⟩
      · have rD : r ≠ D := fun z => by rw [z, hl] at hn5; cases hn5
        have h3 : rs.length ≤ 3 := by omega
        refine ⟨xs.map V.ref, s5 _ _ hl, small (by rw [List.length_map, lx]; omega), (s1.trans s5).mut hD, ts ++ [t], xs ++ [r], ?_, ?_, ?_, ?_, ?_⟩
        · rw [take_snoc eb]
          exact mapM_snoc hm ht
        · intro u hu
          rcases List.mem_append.mp hu with hu | hu
          · exact htl u hu
          · rw [List.mem_singleton.mp hu]; exact read_ok ht
        · rw [upd_same, List.map_append]
          rfl
        · rw [List.length_append, lx]; rfl
        · rw [hid_upd]
          exact Paired.one (Paired.mapP hp fun _ _ e => hid_mono s5 _ _ e) (hid_get rD hr5)
      · refine fun d H5 s5 hd => k2 (-4) ?_ d H5 (s1.trans s5) hd
        unfold textsE
        rw [split_at eb, mapM_none hn]
    · rintro H' ⟨s1, ts, xs, hm, htl, hl, lx, hp⟩
      rw [List.length_map, ← lrs, List.take_length] at hm
      have lt := mapM_len hm
      have hx : LTx H' D ts := ⟨xs, hl, Paired.mapP hp fun _ _ e => hid_same D H' _ _ e⟩
      have eE : textsE c rs = match textsL c ts with | none => .error (-6) | some l => .ok l := by
        unfold textsE
        rw [hm]
      refine ⟨c, D, ts, rfl, hx, htl, by rw [lt]; exact hc', fun l hl2 r H5 s5 hr5 hn5 => k1 l ?_ r H5 ((FrS.refl _ _).new (s1.trans s5)) (hdkS.mono (hidS_mono (s1.trans s5))) hr5 (s1.free hn5), fun hn => fun d H5 s5 hd => k2 (-6) ?_ d H5 (s1.trans s5) hd⟩
      · rw [eE, hl2]
      · rw [eE, hn]
end
end Lp
end
section
set_option maxHeartbeats 4000000
/-! ### answers -/
namespace Lp
open PySem PySem.Spec PyProof.Rows L2
open PySem.W (Frag)
open VasedBase (Bytes word)
open Vaseda (Script)
def ansE (o : Option Script) (c : Int) (rs : List Bytes) : List Int := match toldE o c rs with
  | .ok l => l
  | .error n => [n]
theorem told_err {o : Option Script} {c : Int} {rs : List Bytes} {n : Int} (h : toldE o c rs = .error n) : toldO o c rs = o := by
  match rs, h with
  | [], _ => rfl
  | [b], h =>
    by_cases c0 : c = 0
    · subst c0
      have h : Except.ok (loadL b) = Except.error n := h
      cases h
    · show (if c = 0 then _ else o) = o
      rw [if_neg c0]
  | _ :: _ :: _, _ => rfl
abbrev Calls := List (Int × List Bytes)
def playL : Option Script → Calls → List Int
  | _, [] => []
  | o, c :: r => ((ansE o c.1 c.2).length : Int) :: ansE o c.1 c.2 ++ playL (toldO o c.1 c.2) r
def intsB (b : Bytes) : List Int := b.map fun c => (c.toNat : Int)
def encR (b : Bytes) : List Int := (b.length : Int) :: intsB b
def encC (c : Int × List Bytes) : List Int := c.1 :: c.2.flatMap encR
theorem vI_bytes (b : Bytes) : vI (intsB b) = vB b := by
  unfold intsB
  rw [vI, List.map_map]
  rfl
theorem drop_get {L : List Int} {k : Nat} {x : Int} {t : List Int} (h : L.drop k = x :: t) : L[k]? = some x ∧ L.drop (k + 1) = t ∧ k < L.length := by
  have h0 : (L.drop k)[0]? = some x := by rw [h]; rfl
  rw [List.getElem?_drop, Nat.add_zero] at h0
  refine ⟨h0, ?_, (List.getElem?_eq_some_iff.mp h0).1⟩
  rw [← List.drop_drop, h]
  rfl
theorem vI_get {L : List Int} {k : Nat} {x : Int} (h : L[k]? = some x) : (vI L)[k]? = some (.int x) := by
  rw [List.getElem?_map, h]
  rfl
theorem rows_at {c : Int} {rs : List Bytes} (h : RowsOk c rs) : atI [V.int 1, V.int 2, V.int 1, V.int 2, V.int 1, V.int 3, V.int 3, V.int 2] c = some (.int (rs.length : Nat)) := by
  rcases h with ⟨e, h⟩ | ⟨e, h⟩ | ⟨e, h⟩ <;> rw [e]
  · rcases h with rfl | rfl | rfl <;> rfl
  · rcases h with rfl | rfl | rfl <;> rfl
  · rcases h with rfl | rfl <;> rfl
section
variable {P : Program} {w : World} {K : Frag} {mg : Str → Option Value} {base : Heap}
abbrev s_answer : Stmt := topS 107
theorem sc_answer : FnScope ["desk", "call", "rows", "e"] ["desk", "call", "rows"] (defScope s_answer) := ⟨rfl, rfl, rfl, by decide +kernel, rfl, by decide +kernel, by decide +kernel⟩
def spAnswer (K : Frag) : Sp := fun vs H Q _ => ∃ (S : List Addr) (dk ra : Addr) (c : Int) (rs : List Bytes) (o : Option Script), vs = [.ref dk, .int c, .ref ra] ∧ (∀ x ∈ S, H x ≠ none) ∧ dk ∉ S ∧ DkAt K (hidS S H) dk o ∧ LRow H ra rs ∧ (∀ b ∈ rs, b.length ≤ 100000) ∧ RowsOk c rs ∧
  ∀ r H', FrS [dk] H H' → DkAt K (hidS S H') dk (toldO o c rs) → H' r = some (.lst (vI (ansE o c rs))) → H r = none → Q (.ref r) H'
theorem ok_answer (A : FnAt K mg "answer" s_answer ["desk", "call", "rows"]) (T : Txt K mg) (D_told : Dn P w K mg base (L2.CX P w) 11 "told" ["desk", "call", "rows"] (spToldC K)) : Dn P w K mg base CX0 (11 + 1) "answer" ["desk", "call", "rows"] (spAnswer K) := A.dn fun f fd F => by
  refine ok0 F sc_answer (fun vs H Q E h => ?_) (fun cdv A outer s H vs Q E hr h => ?_)
  · obtain ⟨_, _, _, _, _, _, rfl, _⟩ := h
    rfl
  obtain ⟨S, dk, ra, c, rs, o, rfl, hS, nS, hdk, hra, hz, hc, k⟩ := h
  refine ⟨_, (pss_one (ps_try_as (i := 3) (tb := fun W => tRet (tCallS (spToldC K) (WE W) (tCons (tVar 0) (tCons (tVar 1) (tCons (tVar 2) tNil))))) (ts := fun a cls d => tRet (tLst (tCons (tXf a cls d (cA K "Refused") "number" (tVar 3)) tNil))) rfl rfl sc_answer.nd rfl rfl ⟨rfl, by decide, .inl T.g_Refused⟩ takes_none5
      (fun W pn xe tk po => by exact (pss_one (ps_ret (pe_fS D_told (hr.mono (by decide)) (passAt tk) (pa_cons (pv 0) (pa_cons (pv 1) (pa_cons (pv 2) pa_nil)))))))
      (fun a oe cls d pn hz hf => by exact (pss_one (ps_ret (pe_lst (pa_cons (pe_xf T.xf_Refused T.na_Refused_number hz hf (pv 3)) pa_nil))))))), ?_⟩
  refine ⟨_, rfl, _, rfl, _, rfl, S, dk, ra, c, rs, o, rfl, hS, nS, hdk, hra, hz, hc, fun l hl r H1 f1 hd1 hr1 hn1 => ?_, fun n hn d H1 s1 hd => ?_⟩
  · refine k r H1 f1 hd1 ?_ hn1
    unfold ansE
    rw [hl]
    exact hr1
  · refine ⟨true, T.te_Refused, fun _ e he => ?_, fun z => nomatch z⟩
    refine ⟨_, rfl, rfl, rfl, d, _, _, rfl, hd, rfl, by show 1 ≤ sizeLine; decide, fun q hq => ?_⟩
    have s2 := s1.new (o := .lst [V.int n]) hq
    refine k q _ ((FrS.refl _ _).new s2) (by rw [told_err hn]; exact hdk.mono (hidS_mono s2)) ?_ (s1.free hq)
    rw [upd_same]
    unfold ansE
    rw [hn]
    rfl
abbrev s_answers : Stmt := topS 108
theorem sc_answers : FnScope ["calls", "desk", "found", "at", "call", "rows", "turn", "behind", "one"] ["calls"] (defScope s_answers) := ⟨rfl, rfl, rfl, by decide +kernel, rfl, by decide +kernel, by decide +kernel⟩
def spAnswers (K : Frag) : Sp := fun vs H Q _ => ∃ (a : Addr) (cs : Calls), vs = [.ref a] ∧ SqL K H a (vI (cs.flatMap encC)) ∧ (∀ c ∈ cs, RowsOk c.1 c.2 ∧ ∀ b ∈ c.2, b.length ≤ 100000) ∧ (cs.flatMap encC).length ≤ 10000000 ∧ (playL none cs).length ≤ 10000000 ∧
  ∀ r H', Same H H' → H' r = some (.lst (vI (playL none cs))) → Q (.ref r) H'
theorem ok_answers (T : Txt K mg) (D_Desk : Dc P w K mg base 1 "Desk" (cA K "Desk") ["self"] (spNewDesk K)) (D_answer : Dn P w K mg base CX0 (11 + 1) "answer" ["desk", "call", "rows"] (spAnswer K)) :
    ∀ f fd, FnP K "answers" "answers" s_answers f fd → FnOk P w K mg base CX0 13 f fd ["calls"] (spAnswers K) := fun f fd F => by
  refine ok0 F sc_answers (fun vs H Q E h => ?_) (fun cdv A outer s H vs Q E hr h => ?_)
  · obtain ⟨_, _, rfl, _⟩ := h
    rfl
  obtain ⟨a, cs, rfl, ha, hok, zL, zP, k⟩ := h
  refine ⟨_, (pss_cons (ps_set (i := 1) sc_answers.nd rfl (Or.inl rfl) (pe_c0 D_Desk (hr.mono (by decide))))
      (pss_cons (ps_set (i := 2) sc_answers.nd rfl (Or.inl rfl) (pe_lst pa_nil))
      (pss_cons (ps_set (i := 3) sc_answers.nd rfl (Or.inl rfl) pe_int)
      (pss_cons (ps_while PassesOwn.never (pt_cmpR op_lt (pv 3) (pe_callB call_len (by rfl) T.f_len PySem.boot_len (pa_cons (pv 0) pa_nil)) (nomark _))
      (pss_cons (ps_set (i := 4) sc_answers.nd rfl (Or.inl rfl) (pe_ix ix_list (pv 0) (pv 3) (fun _ _ => rfl)))
      (pss_cons (ps_aug (i := 3) sc_answers.nd rfl (.inl rfl) pe_int ip_add)
      (pss_cons (ps_set (i := 5) sc_answers.nd rfl (Or.inl rfl) (pe_lst pa_nil))
      (pss_cons (ps_for PassesOwn.never rfl (pi_range1 (by rfl) T.f_range (pa_cons (pe_ix ix_tup (pe_gref T.g_ROWS) (pv 4) (fun _ _ => rfl)) pa_nil)) (pg_name (i := 6) sc_answers.nd rfl (Or.inl rfl))
      (pss_cons (ps_set (i := 7) sc_answers.nd rfl (Or.inl rfl) (pe_op op_add (pe_op op_add (pv 3) pe_int) (pe_ix ix_list (pv 0) (pv 3) (fun _ _ => rfl))))
      (pss_cons (ps_expr (pe_bm PySem.F.plainAttrs_list PySem.F.slot_list_append PySem.F.type_list_append mt_append (pv 5) (pa_cons (pe_slice sl_list (pv 0) (po_some (pe_op op_add (pv 3) pe_int)) (po_some (pv 7))) pa_nil)))
      (pss_one (ps_set (i := 3) sc_answers.nd rfl (Or.inl rfl) (pv 7))))))
      (pss_cons (ps_set (i := 8) sc_answers.nd rfl (Or.inl rfl) (pe_f D_answer (hr.mono (by decide)) pass0 (pa_cons (pv 1) (pa_cons (pv 4) (pa_cons (pv 5) pa_nil)))))
      (pss_cons (ps_expr (pe_bm PySem.F.plainAttrs_list PySem.F.slot_list_append PySem.F.type_list_append mt_append (pv 2) (pa_cons (pe_callB call_len (by rfl) T.f_len PySem.boot_len (pa_cons (pv 8) pa_nil)) pa_nil)))
      (pss_one (ps_expr (pe_bm PySem.F.plainAttrs_list PySem.F.slot_list_extend PySem.F.type_list_extend mt_extend (pv 2) (pa_cons (pv 8) pa_nil)))))))))))
      (pss_one (ps_ret (pv 2))))))), ?_⟩
  intro dk dx hdk0 hdx0 hne
  refine ⟨dk, dx, rfl, upd_same, fun H1 sb hdk1 => ⟨rfl, ?_⟩⟩
  have s1 : Same H H1 := Same.but hdk0 hdx0 sb
  refine ⟨by show 0 ≤ sizeLine; decide, fun F0 hF0 => ?_⟩
  have s2 := s1.new (o := .lst []) hF0
  have nFd : F0 ≠ dk := fun z => by rw [z, hdk1] at hF0; cases hF0
  have hF00 : H F0 = none := s1.free hF0
  obtain ⟨L, hL⟩ : ∃ L, L = cs.flatMap encC := ⟨_, rfl⟩
  rw [← hL] at ha zL
  have sl : sizeLine = 16777216 := sizeLine_eq
  refine ⟨fun m σ H' => ∃ (x4 x5 x6 x7 x8 : Option V) (kk : Nat) (out : List Int) (o : Option Script) (rest : Calls), σ = [some (.ref a), some (.ref dk), some (.ref F0), some (.int (kk : Nat)), x4, x5, x6, x7, x8] ∧ m = rest.length ∧ Same H H' ∧ H' F0 = some (.lst (vI out)) ∧
    DkAt K (hidS [F0] H') dk o ∧ L.drop kk = rest.flatMap encC ∧ kk ≤ L.length ∧ playL none cs = out ++ playL o rest ∧ ∀ c ∈ rest, RowsOk c.1 c.2 ∧ ∀ b ∈ c.2, b.length ≤ 100000, ⟨_, none, none, none, none, none, 0, [], none, cs, rfl, rfl, s2, upd_same, ?_, ?_, Nat.zero_le _, rfl, hok⟩, ?_⟩
  · exact ⟨dx, .non, hidS_get (by simpa using Ne.symm nFd) (by rw [upd_ne (Ne.symm nFd)]; exact hdk1), rfl⟩
  · rw [hL]
    rfl
  rintro m σ H' ⟨x4, x5, x6, x7, x8, kk, out, o, rest, rfl, rfl, s3, hF, hdk, hdr, hkk, hpl, hrs⟩
  have ha3 := s3.lst ha
  refine ⟨_, rfl, _, rfl, _, L.length, rfl, .inl ⟨_, ha3, (List.length_map ..).symm⟩, _, _, rfl, rfl, _, rfl, if_of (fun c1 => ?_) (fun c1 => ?_)⟩
  · have c1 : (kk : Int) < (L.length : Nat) := of_decide_eq_true c1
    cases rest with
    | nil =>
      have := congrArg List.length hdr
      rw [List.length_drop] at this
      have : L.length - kk = 0 := this
      omega
    | cons cr rest =>
      obtain ⟨c, rs⟩ := cr
      have hc := hrs (c, rs) (by simp)
      have hdr : L.drop kk = c :: (rs.flatMap encR ++ rest.flatMap encC) := hdr
      obtain ⟨g0, d0, l0⟩ := drop_get hdr
      refine ⟨_, fun σ' H' h => h, ?_⟩
      refine ⟨_, rfl, _, rfl, a, _, _, _, rfl, rfl, ha3, atI_nat (vI_get g0), ?_⟩
      refine ⟨_, rfl, _, _, rfl, rfl, ?_⟩
      refine ⟨by show 0 ≤ sizeLine; decide, fun R0 hR0 => ?_⟩
      have s4 := (Same.refl H').new (o := .lst []) hR0
      have hc1 : RowsOk c rs := hc.1
      have hrl : rs.length ≤ 3 := by
        rcases hc1 with h | h | h
        · rw [h.1]; decide
        · rw [h.1]; decide
        · rw [h.1]; decide
      refine ⟨_, rfl, cA K "ROWS", _, _, _, rfl, rfl, T.tt_ROWS _, rows_at hc1, _, rfl, by omega, by omega, ?_⟩
      refine for_range (lo := 0) (n := rs.length) (fun j σ H2 => ∃ (x6 x7 : Option V) (kj : Nat) (xs : List Addr), σ = [some (.ref a), some (.ref dk), some (.ref F0), some (.int (kj : Nat)), some (.int c), some (.ref R0), x6, x7, x8] ∧ Same H' H2 ∧ H2 R0 = some (.lst (xs.map V.ref)) ∧ xs.length = j ∧
        Paired (fun (b : Bytes) x => hid R0 H2 x = some (.lst (vB b))) (rs.take j) xs ∧ L.drop kj = (rs.drop j).flatMap encR ++ rest.flatMap encC ∧ kj ≤ L.length) ?_ ?_ ?_
      · exact ⟨x6, x7, kk + 1, [], rfl, s4, upd_same, rfl, .nil, d0, by omega⟩
      · rintro i σ H2 hi ⟨y6, y7, kj, xs, rfl, s5, hR, lx, hp, hd, hk⟩
        have eb : rs[i]? = some rs[i] := List.getElem?_eq_getElem hi
        have hbz := hc.2 rs[i] (List.getElem_mem _)
        rw [List.drop_eq_getElem_cons hi] at hd
        generalize rs[i] = b at eb hbz hd
        have hd : L.drop kj = (b.length : Int) :: (intsB b ++ ((rs.drop (i + 1)).flatMap encR ++ rest.flatMap encC)) := by
          rw [hd, List.flatMap_cons]
          show encR b ++ _ ++ _ = _
          rw [List.append_assoc]
          rfl
        obtain ⟨g1, d1, l1⟩ := drop_get hd
        have lb : (intsB b).length = b.length := List.length_map ..
        have ll := congrArg List.length d1
        rw [List.length_drop, List.length_append, lb] at ll
        have ha5 := (s3.trans s5).lst ha
        refine ⟨_, rfl, _, _, rfl, rfl, _, rfl, _, rfl, a, _, _, _, rfl, rfl, ha5, atI_nat (vI_get g1), _, _, rfl, rfl, ?_⟩
        refine ⟨_, rfl, .inl ⟨rfl, _, .of hR⟩, _, rfl, _, rfl, _, _, rfl, rfl, _, rfl, _, rfl, _, rfl, a, _, rfl, ha5, fun q hq => ?_⟩
        have Rq : R0 ≠ q := fun z => by rw [z, hq] at hR; cases hR
        have ec : cutV (vI L) (some ((kj : Int) + 1)) (some ((kj : Int) + 1 + (b.length : Int))) = vB b := by
          rw [show (kj : Int) + 1 + (b.length : Int) = ((kj + 1 + b.length : Nat) : Int) from by omega, show (kj : Int) + 1 = ((kj + 1 : Nat) : Int) from by omega, cutV_to _ _ _ (by omega) (by rw [List.length_map]; omega)]
          rw [← List.map_drop, ← List.map_take, d1, show kj + 1 + b.length - (kj + 1) = (intsB b).length from by rw [lb]; omega, List.take_left']
          · exact vI_bytes b
          · rfl
        refine ⟨R0, _, _, rfl, rfl, by rw [upd_ne Rq]; exact hR, small (by rw [List.length_map]; omega), ?_⟩
        refine ⟨_, rfl, ?_⟩
        have hR00 : H' R0 = none := hR0
        refine ⟨some (.int ((0 : Int) + (i : Nat))), some (.int ((kj + 1 + b.length : Nat) : Int)), kj + 1 + b.length, xs ++ [q], ?_, (s5.new hq).mut hR00, ?_, ?_, ?_, ?_, by omega⟩
        · show [some (V.ref a), some (V.ref dk), some (V.ref F0), some (V.int ((kj : Int) + 1 + (b.length : Int))), some (V.int c), some (V.ref R0), some (V.int ((0 : Int) + (i : Nat))), some (V.int ((kj : Int) + 1 + (b.length : Int))), x8] = _
          rw [show (kj : Int) + 1 + (b.length : Int) = ((kj + 1 + b.length : Nat) : Int) from by omega]
        · rw [upd_same, List.map_append]
          rfl
        · rw [List.length_append, lx]
          rfl
        · rw [hid_upd, take_snoc eb]
          refine Paired.one (Paired.mapP hp fun _ _ e => hid_mono ((Same.refl H2).new hq) _ _ e) (hid_get (Ne.symm Rq) ?_)
          rw [upd_same, ec]
        · rw [← List.drop_drop, d1, List.drop_left']
          exact lb
      · rintro σ H2 ⟨y6, y7, kj, xs, rfl, s5, hR, lx, hp, hd, hk⟩
        rw [List.take_length] at hp
        rw [List.drop_length] at hd
        have hd : L.drop kj = rest.flatMap encC := hd
        have hF2 := s5 _ _ hF
        have hx : LRow H2 R0 rs := ⟨xs, hR, Paired.mapP hp fun _ _ e => hid_same R0 H2 _ _ e⟩
        refine ⟨_, rfl, _, rfl, _, rfl, [F0], dk, R0, c, rs, o, rfl, (fun x hx => by rw [List.mem_singleton.mp hx, hF2]; exact fun z => nomatch z), by simpa using Ne.symm nFd, hdk.mono (hidS_mono s5), hx, hc.2, hc.1, fun r H5 f5 hd5 hr5 hn5 => ?_⟩
        have hF5 : H5 F0 = some (.lst (vI out)) := f5.get (by simpa using nFd) hF2
        have s6 : Same H H5 := fun b u e => f5.get (by simpa using ne_of_none e hdk0) ((s3.trans s5) _ _ e)
        have rF : r ≠ F0 := fun z => by rw [z, hF2] at hn5; cases hn5
        have epl : playL o ((c, rs) :: rest) = ((ansE o c rs).length : Int) :: ansE o c rs ++ playL (toldO o c rs) rest := rfl
        have zo : out.length + (1 + (ansE o c rs).length) ≤ 10000000 := by
          have := congrArg List.length hpl
          rw [epl] at this
          simp only [List.length_append, List.length_cons] at this
          omega
        refine ⟨_, rfl, .inl ⟨rfl, _, .of hF5⟩, _, rfl, _, (ansE o c rs).length, rfl, .inl ⟨_, .of hr5, (List.length_map ..).symm⟩, F0, _, _, rfl, rfl, hF5, by rw [List.length_map, sl]; omega, ?_⟩
        refine ⟨_, rfl, .inl ⟨rfl, _, .of upd_same⟩, _, rfl, F0, r, _, _, rfl, rfl, upd_same, by rw [upd_ne rF]; exact hr5, by rw [List.length_append, List.length_map, List.length_map, List.length_singleton, sl]; omega, ?_⟩
        refine ⟨rest.length, Nat.lt_succ_self _, some (.int c), some (.ref R0), y6, y7, some (.ref r), kj, out ++ ((ansE o c rs).length : Int) :: ansE o c rs, toldO o c rs, rest, rfl, rfl, (s6.mut hF00).mut hF00, ?_, ?_, hd, hk, ?_, fun c' hc' => hrs c' (List.mem_cons_of_mem _ hc')⟩
        · rw [upd_same]
          simp [vI]
        · rw [hidS_upd (by simp), hidS_upd (by simp)]
          exact hd5
        · rw [hpl, epl]
          simp
  · have c1 : ¬ (kk : Int) < (L.length : Nat) := of_decide_eq_false c1
    have er : rest = [] := by
      cases rest with
      | nil => rfl
      | cons cr rest =>
        rw [List.drop_of_length_le (by omega)] at hdr
        have hdr : [] = cr.1 :: (cr.2.flatMap encR ++ rest.flatMap encC) := hdr
        cases hdr
    subst er
    have hpl : playL none cs = out := by rw [hpl]; exact List.append_nil _
    exact ⟨_, rfl, k F0 H' s3 (by rw [hpl]; exact hF)⟩
end
end Lp
end
section
set_option maxHeartbeats 4000000
/-! ### judgements with the raw value and a clock (how many tokens are out) -/
namespace Lp
open PySem PySem.Spec PyProof.Rows L2
open PySem.W (Frag)
abbrev CK := Value → V → Hp → Nat → Prop
abbrev TEc := L2.St → Hp → Nat → CK → Prop
abbrev CKs := List Value → List V → Hp → Nat → Prop
abbrev TAc := L2.St → Hp → Nat → CKs → Prop
structure EndsC where
  nx : L2.St → Hp → Nat → Prop
  rt : CK
abbrev TSc := EndsC → L2.St → Hp → Nat → Prop
def EPc (X : Cx) (pins : List (Addr × Obj)) (σ : L2.St) (Q : CK) (u : Value) (s' : Shared) : Prop := ∃ v H' n, Inv X pins σ H' s' ∧ RelV v u ∧ n ≤ s'.toks ∧ Q u v H' n
def APc (X : Cx) (pins : List (Addr × Obj)) (σ : L2.St) (Q : CKs) (us : List Value) (s' : Shared) : Prop := ∃ vs H' n, Inv X pins σ H' s' ∧ Vals vs us ∧ n ≤ s'.toks ∧ Q us vs H' n
def SPc (X : Cx) (pins : List (Addr × Obj)) (D : EndsC) (f : Flow) (s' : Shared) : Prop :=
  match f with
  | .next => ∃ σ' H' n, Inv X pins σ' H' s' ∧ n ≤ s'.toks ∧ D.nx σ' H' n
  | .ret u => ∃ v σ' H' n, Inv X pins σ' H' s' ∧ RelV v u ∧ n ≤ s'.toks ∧ D.rt u v H' n
  | _ => False
structure PEc (X : Cx) (e : Expr) (t : TEc) : Prop where
  run : ∀ (pins : List (Addr × Obj)) (s : Shared) (σ : L2.St) (H : Hp) (n : Nat) (Q : CK), n ≤ s.toks → Inv X pins σ H s → t σ H n Q → wpAny (model X.prog X.w) X.A (eval e X.env) (EPc X pins σ Q) X.xe s
structure PAc (X : Cx) (es : List Expr) (t : TAc) : Prop where
  run : ∀ (pos : Pos) (pins : List (Addr × Obj)) (s : Shared) (σ : L2.St) (H : Hp) (n : Nat) (Q : CKs), n ≤ s.toks → Inv X pins σ H s → t σ H n Q → wpAny (model X.prog X.w) X.A (spliced (backTo pos (starEach es X.env))) (APc X pins σ Q) X.xe s
structure PSsc (X : Cx) (st : List Stmt) (t : TSc) : Prop where
  run : ∀ (pins : List (Addr × Obj)) (s : Shared) (σ : L2.St) (H : Hp) (n : Nat) (D : EndsC), n ≤ s.toks → Inv X pins σ H s → t D σ H n → wpAny (model X.prog X.w) X.A (execs st X.env) (SPc X pins D) X.xe s
/-- a promise with the raw value and the clock -/
abbrev Spc := List V → Hp → Nat → CK → XK → Prop
def CEc (outer : List Env) (P : Program) (w : World) (H : Hp) (s : Shared) (Q : CK) (u : Value) (s' : Shared) : Prop :=
  ∃ v H' n, s'.os = s.os ∧ AllBare s'.gens ∧ Un (frs outer) [] H H' s.heap s'.heap ∧ HOk P w H' s'.heap ∧ RelV v u ∧ n ≤ s'.toks ∧ Q u v H' n
def CRc (CX : CXT) (outer : List Env) (P : Program) (w : World) (H : Hp) (s : Shared) (Q : CK) (E : XK) (r : Result) (s' : Shared) : Prop :=
  match r with
  | .ok (.ret u) => CEc outer P w H s Q u s'
  | .ok _ => False
  | .error e => CX outer H s E e s'
structure FnC (P : Program) (w : World) (K : Frag) (mg : Str → Option Value) (base : Heap) (CX : CXT) (k : Nat) (f : Addr) (fd : FuncData) (ps : List Str) (sp : Spc) : Prop where
  len : ∀ vs H n Q E, sp vs H n Q E → vs.length = ps.length
  run : ∀ (A : Around) (outer : List Env) (s : Shared) (H : Hp) (args : Args) (us : List Value) (vs : List V) (n : Nat) (Q : CK) (E : XK), Room k A → Env0 P w K mg base A outer s H → BindsTo s fd args (ps.zip us) → Vals vs us → n ≤ s.toks → sp vs H n Q E →
    codeAny (model P w) A (.call (.ref f) args) (CRc CX outer P w H s Q E) s
section
variable (P : Program) (w : World) (K : Frag) (mg : Str → Option Value) (base : Heap)
structure DnC (CX : CXT) (k : Nat) (x : Str) (ps : List Str) (sp : Spc) : Prop where
  ex : ∃ f fd, mg x = some (.ref f) ∧ PySem.W.keepIn K (.ref f) = true ∧ Binds K fd ps [] ∧ FnC P w K mg base CX k f fd ps sp
structure DmC (CX : CXT) (k : Nat) (C : Addr) (m : Str) (ps : List Str) (sp : Spc) : Prop where
  ex : ∃ f fd, Meth K C m f ∧ Binds K fd ps [] ∧ FnC P w K mg base CX k f fd ps sp
end
section
variable {X : Cx} {pins : List (Addr × Obj)} {σ : L2.St} {H : Hp} {s : Shared} {n : Nat} {e o : Expr} {es : List Expr} {te to : TE} {tc : TEc} {ta : TA} {tac : TAc} {st : Stmt} {rest sts : List Stmt} {t : TS} {u uc tcs : TSc} {g : TG} {pos apos p : Pos}
def cE (te : TE) : TEc := fun σ H n Q => te σ H fun v H' => ∀ u, RelV v u → Q u v H' n
def cAr (ta : TA) : TAc := fun σ H n Q => ta σ H fun vs H' => ∀ us, Vals vs us → Q us vs H' n
theorem PEc.of (h : PE X e te) : PEc X e (cE te) := ⟨fun pins s σ H n Q hn I q =>
  wpAny_mono (wpAny_toks_of hn (h.run pins s σ H _ I q)) (fun u s' z => by
    obtain ⟨k, v, H', I', r, q⟩ := z
    exact ⟨v, H', n, I', r, k, q u r⟩) fun _ _ z => z.2⟩
theorem PAc.of (h : PA X es ta) : PAc X es (cAr ta) := ⟨fun pos pins s σ H n Q hn I q =>
  wpAny_mono (wpAny_toks_of hn (h.run pos pins s σ H _ I q)) (fun u s' z => by
    obtain ⟨k, v, H', I', r, q⟩ := z
    exact ⟨v, H', n, I', r, k, q u r⟩) fun _ _ z => z.2⟩
def cCons (ta : TEc) (tr : TAc) : TAc := fun σ H n Q => ta σ H n fun u x H1 n1 => tr σ H1 n1 fun us xs H2 n2 => Q (u :: us) (x :: xs) H2 n2
theorem pac_cons (ha : PEc X e tc) (hr : PAc X es tac) (hs : starEach (e :: es) X.env = (false, eval e X.env) :: starEach es X.env := by rfl) : PAc X (e :: es) (cCons tc tac) := by
  refine ⟨fun pos pins s σ H n Q hn I h => ?_⟩
  rw [hs]
  show wpAny _ _ (spliced ((false, eval e X.env) :: backTo pos (starEach es X.env))) _ _ s
  refine Calls.spliced_cons (thn (ha.run pins s σ H n _ hn I h) fun u s1 ⟨x, H1, n1, I1, r1, k1, q1⟩ => ?_)
  exact thn (hr.run pos pins s1 σ H1 n1 _ k1 I1 q1) fun us s2 ⟨xs, H2, n2, I2, r2, k2, q2⟩ => ⟨x :: xs, H2, n2, I2, .cons r1 r2, k2, q2⟩
def cTup (t : TAc) : TEc := fun σ H n Q => t σ H n fun us vs H1 n1 => vs.length ≤ sizeLine ∧ ∀ p, H1 p = none → Q (.ref p) (.ref p) (upd H1 p (.tup vs)) n1
theorem pec_tup {x1} (h : PAc X es tac) : PEc X (.Tuple es x1 pos) (cTup tac) := by
  refine ⟨fun pins s σ H n Q hn I hq => ?_⟩
  refine wpAny_Tuple_spliced (thn (h.run pos pins s σ H n _ hn I hq) fun us s1 ⟨xs, H1, n1, I1, r, k1, z, q⟩ => ⟨by rw [← r.length]; exact z, ?_⟩)
  have hf : H1 s1.heap.objs.size = none := I1.hok.fresh (Nat.le_refl _)
  refine ⟨.ref s1.heap.objs.size, upd H1 s1.heap.objs.size (.tup xs), n1, I1.laid (t' := s1.toks) (fun b u e => Heap.get?_push_of_some _ e) (Nat.le_refl _) ?_, rfl, k1, q _ hf⟩
  exact ⟨z, us, r, ⟨_, Heap.get?_push_size _ rfl, rfl, _, rfl⟩⟩
def cLst (t : TAc) : TEc := fun σ H n Q => t σ H n fun us vs H1 n1 => vs.length ≤ sizeLine ∧ ∀ p, H1 p = none → Q (.ref p) (.ref p) (upd H1 p (.lst vs)) n1
theorem pec_lst (h : PAc X es tac) : PEc X (.List es pos) (cLst tac) := by
  refine ⟨fun pins s σ H n Q hn I hq => ?_⟩
  refine wpAny_List_spliced (thn (h.run pos pins s σ H n _ hn I hq) fun us s1 ⟨xs, H1, n1, I1, r, k1, z, q⟩ => ⟨by rw [← r.length]; exact z, ?_⟩)
  have hf : H1 s1.heap.objs.size = none := I1.hok.fresh (Nat.le_refl _)
  refine ⟨.ref s1.heap.objs.size, upd H1 s1.heap.objs.size (.lst xs), n1, I1.laid (t' := s1.toks) (fun b u e => Heap.get?_push_of_some _ e) (Nat.le_refl _) ?_, rfl, k1, q _ hf⟩
  exact ⟨z, us, 0, r, Heap.get?_push_size _ rfl⟩
/-- a written text: its token is given out here -/
def cStr (x : Str) : TEc := fun _ H n Q => ∀ t n', n ≤ t → t < n' → Q (.str x t) (.str x) H n'
theorem pec_str {x : Str} {j : Nat} : PEc X (.Constant (.str x) j pos) (cStr x) := ⟨fun pins s σ H n Q hn I h =>
  Calls.Constant_str ⟨.str x, H, s.toks + 1, I.tok _, ⟨_, rfl⟩, Nat.le_refl _, h s.toks (s.toks + 1) hn (Nat.lt_succ_self _)⟩⟩
/-! statements -/
def cNil : TSc := fun D σ H n => D.nx σ H n
theorem pssc_nil : PSsc X [] cNil := ⟨fun _ _ σ H n _ hn I h => wpAny_execs_nil ⟨σ, H, n, I, hn, h⟩⟩
def cStd (t : TS) (u : TSc) : TSc := fun D σ H n => t { nx := fun σ' H' => u D σ' H' n, rt := fun v H' => ∀ w, RelV v w → D.rt w v H' n } σ H
theorem pssc_std (h1 : PS X st t) (h2 : PSsc X rest u) : PSsc X (st :: rest) (cStd t u) := by
  refine ⟨fun pins s σ H n D hn I h => ?_⟩
  refine wpAny_execs_cons (wpAny_mono (wpAny_toks_of hn (h1.run pins s σ H _ I h)) (fun f s1 q => ?_) fun _ _ z => z.2)
  obtain ⟨k, q⟩ := q
  cases f with
  | next =>
    obtain ⟨σ', H', I', q⟩ := q
    exact h2.run pins s1 σ' H' n D k I' q
  | ret v =>
    obtain ⟨x, σ', H', I', r, q⟩ := q
    exact ⟨x, σ', H', n, I', r, k, q v r⟩
  | brk =>
    obtain ⟨_, _, _, q⟩ := q
    exact q.elim
  | cont =>
    obtain ⟨_, _, _, q⟩ := q
    exact q.elim
def cAsg (te : TEc) (g : TG) (u : TSc) : TSc := fun D σ H n => te σ H n fun _ x H1 n1 => g x σ H1 fun σ' H' => u D σ' H' n1
theorem pssc_asg {tg : Expr} (he : PEc X e tc) (hg : PG X tg g) (h2 : PSsc X rest u) (hs : swapsWithSole [tg] e pos.line X.env = pure false := by rfl) (hw : swappedStores [tg] e X.env = pure none := by rfl)
    (h1 : (assignEach [tg] X.env).map (·.2) = [assign tg X.env] := by rfl) : PSsc X (.Assign [tg] e pos :: rest) (cAsg tc g u) := by
  refine ⟨fun pins s σ H n D hn I h => ?_⟩
  refine wpAny_execs_cons (wpAny_Assign_stores (thn (he.run pins s σ H n _ hn I h) fun v s1 ⟨x, H1, n1, I1, r1, k1, q1⟩ => ?_) hs hw)
  rw [h1]
  refine wpAny_mono (wpAny_toks_of k1 (hg.run pins s1 σ H1 x v _ I1 r1 q1)) (fun _ s2 z => ?_) fun _ _ z => z.2
  obtain ⟨k2, σ2, H2, I2, q2⟩ := z
  exact h2.run pins s2 σ2 H2 n1 D k2 I2 q2
def cRet (te : TEc) : TSc := fun D σ H n => te σ H n D.rt
theorem pssc_ret (he : PEc X e tc) : PSsc X (.Return (some e) pos :: rest) (cRet tc) := by
  refine ⟨fun pins s σ H n D hn I h => ?_⟩
  refine wpAny_execs_cons (wpAny_Return_some (thn (he.run pins s σ H n _ hn I h) fun v s1 ⟨x, H1, n1, I1, r1, k1, q1⟩ => ?_))
  exact ⟨x, σ, H1, n1, I1, r1, k1, q1⟩
def cIf (c : TT) (t t' u : TSc) : TSc := fun D σ H n => c σ H fun b H1 => if b = true then t { nx := u D, rt := D.rt } σ H1 n else t' { nx := u D, rt := D.rt } σ H1 n
theorem pssc_if {c : Expr} {a b : List Stmt} {tt : TT} {ta tb : TSc} (hc : PT X c tt) (ha : PSsc X a ta) (hb : PSsc X b tb) (hr : PSsc X rest u) : PSsc X (.If c a b pos :: rest) (cIf tt ta tb u) := by
  refine ⟨fun pins s σ H n D hn I h => ?_⟩
  refine wpAny_execs_cons (wpAny_If (wpAny_mono (wpAny_toks_of hn (hc.run pins s σ H _ I h)) (fun d s1 z => ?_) fun _ _ z => z.2))
  obtain ⟨k1, H1, I1, q1⟩ := z
  have go : ∀ {f : Flow} {s2 : Shared}, SPc X pins { nx := u D, rt := D.rt } f s2 → (match f with
      | .next => wpAny (model X.prog X.w) X.A (execs rest X.env) (SPc X pins D) X.xe s2
      | f => SPc X pins D f s2) := fun {f s2} z => by
    cases f with
    | next =>
      obtain ⟨σ', H', n', I', k', q'⟩ := z
      exact hr.run pins s2 σ' H' n' D k' I' q'
    | ret v => exact z
    | brk => exact z.elim
    | cont => exact z.elim
  cases d with
  | true =>
    refine thn (ha.run pins s1 σ H1 n _ k1 I1 q1) fun f s2 z => ?_
    have w := go z
    cases f <;> exact w
  | false =>
    refine thn (hb.run pins s1 σ H1 n _ k1 I1 q1) fun f s2 z => ?_
    have w := go z
    cases f <;> exact w
def cDrop (te : TEc) (u : TSc) : TSc := fun D σ H n => te σ H n fun _ _ H1 n1 => u D σ H1 n1
theorem pssc_expr (he : PEc X e tc) (hr : PSsc X rest u) (hs : swapsWith e none pos.line X.env = pure false := by rfl) : PSsc X (.Expr e pos :: rest) (cDrop tc u) := by
  refine ⟨fun pins s σ H n D hn I h => ?_⟩
  exact wpAny_execs_cons (wpAny_Expr_any (thn (he.run pins s σ H n _ hn I h) fun v s1 ⟨x, H1, n1, I1, r1, k1, q1⟩ => hr.run pins s1 σ H1 n1 D k1 I1 q1) I.quiet hs)
def cWhile (c : TT) (tb u : TSc) : TSc := fun D σ H n => ∃ W : Nat → L2.St → Hp → Nat → Prop, (∃ m, W m σ H n) ∧ ∀ m σ H n, W m σ H n →
  c σ H fun b H1 => if b = true then ∃ N : L2.St → Hp → Nat → Prop, (∀ σ' H' n', N σ' H' n' → ∃ m', m' < m ∧ W m' σ' H' n') ∧ tb { nx := N, rt := D.rt } σ H1 n else u D σ H1 n
theorem pssc_while {c : Expr} {body : List Stmt} {tt : TT} {tb : TSc} (hp : PassesOwn (model X.prog X.w) X.A X.env X.xe) (hc : PT X c tt) (hb : PSsc X body tb) (hr : PSsc X rest u) : PSsc X (.While c body [] pos :: rest) (cWhile tt tb u) := by
  refine ⟨fun pins s σ H n D hn I h => ?_⟩
  obtain ⟨W, ⟨m0, w0⟩, turn⟩ := h
  refine wpAny_execs_cons (wpAny_While (codeAny_whileLoop (fun m s' => ∃ σ' H' n', Inv X pins σ' H' s' ∧ n' ≤ s'.toks ∧ W m σ' H' n') ?_ m0 ⟨σ, H, n, I, hn, w0⟩))
  rintro m s1 ⟨σ1, H1, n1, I1, k1, w1⟩
  refine wpAny_passesOwn hp (wpAny_mono (wpAny_toks_of k1 (hc.run pins s1 σ1 H1 _ I1 (turn m σ1 H1 n1 w1))) (fun b s2 z => ?_) fun _ _ z => z.2)
  obtain ⟨k2, H2, I2, q2⟩ := z
  cases b with
  | true =>
    obtain ⟨N, hN, q2⟩ := q2
    rw [if_pos rfl]
    refine wpAny_passesOwn hp (thn (hb.run pins s2 σ1 H2 n1 _ k2 I2 q2) fun f s3 q3 => ?_)
    cases f with
    | next =>
      obtain ⟨σ3, H3, n3, I3, k3, w3⟩ := q3
      obtain ⟨m', hm, w3⟩ := hN σ3 H3 n3 w3
      exact ⟨m', hm, σ3, H3, n3, I3, k3, w3⟩
    | cont => exact q3.elim
    | brk => exact q3.elim
    | ret v => exact q3
  | false =>
    rw [if_neg Bool.false_ne_true]
    exact wpAny_execs_nil (hr.run pins s2 σ1 H2 n1 D k2 I2 q2)
/-! calls -/
theorem run_fnC {CX : CXT} {k : Nat} {f : Addr} {fd : FuncData} {ps : List Str} {sp : Spc} {E : XK} {Q : CK} {us : List Value} {vs : List V} (F : FnC X.prog X.w X.K X.mg X.base CX k f fd ps sp) (hr : Room k X.A) (hb : Binds X.K fd ps []) (hx : Passes CX X E)
    (I : Inv X pins σ H s) (r : Vals vs us) (hn : n ≤ s.toks) (h : sp vs H n Q E) : wpAny (model X.prog X.w) X.A (call (.ref f) us) (EPc X pins σ Q) X.xe s := by
  have hl : (us ++ []).length = ps.length := by rw [List.append_nil, ← r.length]; exact F.len _ _ _ _ _ h
  have hb' := hb s us I.kIn hl
  rw [List.append_nil] at hb'
  refine wpAny_call (codeAny_mono (F.run X.A X.stack s H ⟨us, []⟩ us vs n Q E hr I.env0 hb' r hn h) fun r s' hq => ?_)
  cases r with
  | error e => exact hx pins σ H s e s' I hq
  | ok fl =>
    cases fl with
    | ret u =>
      obtain ⟨v, H', n', os, bare, un, hok, r, k, q⟩ := hq
      obtain ⟨v', H2, I2, r2, q2⟩ := I.after (Q := fun a b => a = v ∧ b = H') ⟨v, H', os, bare, un, hok, r, rfl, rfl⟩
      obtain ⟨rfl, rfl⟩ := q2
      exact ⟨v', H2, n', I2, r2, k, q⟩
    | next => exact False.elim hq
    | brk => exact False.elim hq
    | cont => exact False.elim hq
def cF (sp : Spc) (E : XK) (t : TAc) : TEc := fun σ H n Q => t σ H n fun _ vs H1 n1 => sp vs H1 n1 Q E
theorem pec_f {CX : CXT} {k : Nat} {x : Str} {ps : List Str} {sp : Spc} {E : XK} (D : DnC X.prog X.w X.K X.mg X.base CX k x ps sp) (hr : Room k X.A) (hx : Passes CX X E) (ha : PAc X (e :: es) tac) (hg : Gl X x := by rfl) (hdb : (x == ("__debug__" : Str)) = false := by decide)
    (he : starEach (e :: es) X.env = (false, eval e X.env) :: starEach es X.env := by rfl) (hpl : (backTo pos (starEach es X.env)).any (·.1) = false := by rfl) : PEc X (.Call (.Name x p) (e :: es) [] pos) (cF sp E tac) := by
  obtain ⟨f, fd, h1, h2, h3, h4⟩ := D.ex
  refine ⟨fun pins s σ H n Q hn I h => ?_⟩
  refine wpAny_Call_Name_kw (ld_glob I hg h1 ?_ hdb)
  refine PySem.W.callWith_K (h₀ := X.base) I.ok.mod.kin h2 (thn (ha.run pos pins s σ H n _ hn I h) fun us s1 ⟨vs, H1, n1, I1, r, k1, q⟩ => ⟨I1.kIn, ?_⟩) he hpl
  exact run_fnC h4 hr h3 hx I1 r k1 q
def cM0 (C : Addr) (m : Str) (sp : Spc) (E : XK) (to : TE) : TEc := fun σ H n Q => to σ H fun x H1 => ∃ a dx fs, x = .ref a ∧ H1 a = some (.ins C dx fs) ∧ fs.lookup m = none ∧ sp [x] H1 n Q E
theorem pec_m0 {pl : Sem Bool} {CX : CXT} {k : Nat} {C : Addr} {m : Str} {ps : List Str} {sp : Spc} {E : XK} (D : DmC X.prog X.w X.K X.mg X.base CX k C m ps sp) (c : Cls X.K C) (hr : Room k X.A) (hx : Passes CX X E) (ho : PE X o to)
    (ht : eval (.Call (.Attribute o m apos) [] [] pos) X.env = (do
      let ov ← eval o X.env
      standAt apos.atName
      let (f, first) ← holding [ov] (getMethod ov m pl)
      callWith pos f first (backTo pos (starEach [] X.env)) (backToKw pos (keywordEach [] X.env))) := by rfl) :
    PEc X (.Call (.Attribute o m apos) [] [] pos) (cM0 C m sp E to) := by
  obtain ⟨f, fd, hm, hb, F⟩ := D.ex
  refine ⟨fun pins s σ H n Q hn I h => ?_⟩
  refine PySem.W.methodCall_KW (pl := pl) (wpAny_mono (wpAny_toks_of hn (ho.run pins s σ H _ I h)) (fun u s1 z => ?_) fun _ _ z => z.2) ht
  obtain ⟨k1, x, H1, I1, rx, a, dx, fs, ex, ea, l, q⟩ := z
  subst ex
  obtain rfl : u = Value.ref a := rx
  refine getmeth_ok I1 ea c hm l ?_
  exact PySem.W.callWith_K0 (first := [.ref a]) I1.kIn hm.kp (run_fnC (us := [.ref a]) (vs := [.ref a]) F hr hb hx I1 (.cons rfl .nil) k1 q)
def cC (C : Addr) (sp : Sp) (t : TAc) : TEc := fun σ H n Q => t σ H n fun _ vs H1 n1 => ∀ x dx, H1 x = none → H1 dx = none → dx ≠ x →
  sp (.ref x :: vs) (upd (upd H1 dx (.own x)) x (.ins C dx [])) (fun v H2 => v = .non ∧ Q (.ref x) (.ref x) H2 n1) E0
theorem pec_c {k : Nat} {x : Str} {C : Addr} {ps : List Str} {sp : Sp} (D : Dc X.prog X.w X.K X.mg X.base k x C ps sp) (hr : Room (k + 1) X.A) (ha : PAc X (e :: es) tac) (hg : Gl X x := by rfl) (hdb : (x == ("__debug__" : Str)) = false := by decide)
    (he : starEach (e :: es) X.env = (false, eval e X.env) :: starEach es X.env := by rfl) (hpl : (backTo pos (starEach es X.env)).any (·.1) = false := by rfl) : PEc X (.Call (.Name x p) (e :: es) [] pos) (cC C sp tac) := by
  obtain ⟨f, fd, h1, h2, h3, h4⟩ := D.ex
  refine ⟨fun pins s σ H n Q hn I h => ?_⟩
  refine wpAny_Call_Name_kw (ld_glob I hg h2 ?_ hdb)
  refine PySem.W.callWith_K (h₀ := X.base) I.ok.mod.kin h1.kp (thn (ha.run pos pins s σ H n _ hn I h) fun us s1 ⟨vs, H1, n1, I1, r, k1, q⟩ => ⟨I1.kIn, ?_⟩) he hpl
  refine wpAny_mono (wpAny_toks_of k1 (run_make (dvs := []) (ds := []) (E := E0) (Q := fun v H2 => ∃ x, v = .ref x ∧ Q (.ref x) (.ref x) H2 n1) h1 h4 hr h3 .nil pass0 I1 r fun x dx hx hdx hne => ?_)) (fun u s2 z => ?_) fun _ _ z => z.2
  · rw [List.append_nil]
    have e : (fun (v : V) (H2 : Hp) => v = .non ∧ ∃ x', V.ref x = V.ref x' ∧ Q (.ref x') (.ref x') H2 n1) = fun v H2 => v = .non ∧ Q (.ref x) (.ref x) H2 n1 := by
      funext v H2
      exact propext ⟨fun ⟨a, x', b, c⟩ => by
        cases b
        exact ⟨a, c⟩, fun ⟨a, c⟩ => ⟨a, x, rfl, c⟩⟩
    exact e ▸ q x dx hx hdx hne
  · obtain ⟨k2, v, H2, I2, r2, x, rfl, q2⟩ := z
    obtain rfl : u = Value.ref x := r2
    exact ⟨.ref x, H2, n1, I2, rfl, k2, q2⟩
/-- o.append(e) and its like -/
def cBM (K : Frag) (T : String) (r : V → List V → Hp → VK → Prop) (to : TE) (t : TAc) : TEc := fun σ H n Q => to σ H fun x H1 => tyV K T x H1 ∧ t σ H1 n fun _ vs H2 n2 => r x vs H2 fun v H3 => ∀ u, RelV v u → Q u v H3 n2
theorem pec_bm {T id : String} {name : Str} {cpos : Pos} {r : V → List V → Hp → VK → Prop} (pa : PlainAttrs T) (slot : Slot T name id) (hty : typeOf (.builtin id) = pure (.type "method_descriptor")) (hm : MtR X id r) (ho : PE X o to) (ha : PAc X (e :: es) tac)
    (hbase : attributeBase o name X.env (eval o X.env) = eval o X.env := by rfl)
    (hfew : ((backTo cpos (starEach (e :: es) X.env)).all (fun x => !x.1) && (backToKw cpos (keywordEach [] X.env)).all (fun x => x.1.isSome)
      && decide ((e :: es).length + ([] : List Keyword).length + (if ([] : List Keyword).isEmpty then 0 else 1) < 30)) = true := by rfl)
    (hline : (apos.endLine == cpos.line) = true := by rfl) (hs : starEach (e :: es) X.env = (false, eval e X.env) :: starEach es X.env := by rfl) (hplain : (backTo cpos (starEach es X.env)).any (·.1) = false := by rfl) :
    PEc X (.Call (.Attribute o name apos) (e :: es) [] cpos) (cBM X.K T r to tac) := by
  refine ⟨fun pins s σ H n Q hn I h => ?_⟩
  refine wpAny_Call_method_late hbase hfew hline rfl (wpAny_mono (wpAny_toks_of hn (ho.run pins s σ H _ I h)) (fun v s1 z => ?_) fun _ _ z => z.2)
  obtain ⟨k1, x, H1, I1, r1, ty, q1⟩ := z
  obtain ⟨h1, h2⟩ := tyV_is I1 r1 ty
  refine ⟨T, id, pa, slot, hty, h1, h2, ?_⟩
  have hA := ha.run cpos pins s1 σ H1 n _ k1 I1 q1
  rw [hs] at hA ⊢
  refine Calls.callWith_builtin (by show (false || (backTo cpos (starEach es X.env)).any (·.1)) = false; rw [hplain] <;> rfl) (Calls.evalArgs_plain ?_)
  refine thn hA fun us s2 ⟨vs, H2, n2, I2, r2, k2, q2⟩ => ?_
  refine wpAny_mono (wpAny_toks_of k2 (hm pins s2 σ H2 x vs v us _ I2 r1 r2 q2)) (fun u s3 z => ?_) fun _ _ z => z.2
  obtain ⟨k3, v3, H3, I3, r3, q3⟩ := z
  exact ⟨v3, H3, n2, I3, r3, k3, q3 u r3⟩
end
end Lp
end
section
set_option maxHeartbeats 4000000
/-! ### defs by the clocked rules; tokens that stand as an exact pair of objects -/
namespace Lp
open PySem PySem.Spec PyProof.Rows L2
open PySem.W (Frag)
section
variable {P : Program} {w : World} {K : Frag} {mg : Str → Option Value} {base : Heap} {x qual : Str} {st : Stmt} {f : Addr} {fd : FuncData} {N ps : List Str} {k : Nat} {CX : CXT}
theorem okC {sp : Spc} (F : FnP K x qual st f fd) (S : FnScope N ps (defScope st)) (len : ∀ vs H n Q E, sp vs H n Q E → vs.length = ps.length)
    (hbody : ∀ (cdv : Value) (A : Around) (outer : List Env) (s : Shared) (H : Hp) (vs : List V) (n : Nat) (Q : CK) (E : XK), Room k (A.deeper (envOfC qual (defScope st) s.heap.objs.size f cdv)) → sp vs H n Q E →
      ∃ t, PSsc (cxOf CX P w K mg base N qual (defScope st) f cdv A outer s H E) (defBody st) t ∧ t { nx := fun _ H' n' => Q .none .non H' n', rt := Q } (start N vs) H n) : FnC P w K mg base CX (k + 1) f fd ps sp := by
  obtain ⟨oc, od, dV, kV, doc, pm, an, cdv, ct, osl, rfl, lk, hcd, _, _⟩ := F.ex
  refine ⟨len, fun A outer s H args us vs n Q E hr e0 hb r hn hsp => ?_⟩
  have hl := len _ _ _ _ _ hsp
  have KX : K.In s.heap := e0.mod.kin.keeps fun b o e => (e0.bs b o e).1
  have lim : s.heap.NoLimit := e0.mod.nolimit.keeps fun b o e => (e0.bs b o e).1
  have hkind : ∀ y ∈ ps.zip us, (defScope st).names.lookup y.1 = some .local ∨ ((defScope st).names.lookup y.1 = some .cell ∧ ((cellsFrom (s.heap.objs.size + 1) (defScope st).names []).lookup y.1).isSome = true) := fun ⟨n, v⟩ hy => by
    rcases S.par n (List.of_mem_zip hy).1 with q | q
    · exact .inl q
    · exact .inr ⟨q, PySem.W.cellsFrom_some _ _ _ (.inl q)⟩
  refine codeAny_call_function hr.depth (KX _ _ lk) rfl S.co S.gen rfl (PySem.W.codeRec_of KX hcd) (hb _ _ _ _ ?_)
  refine wpAny_with_toks hn (wpAny_newFunctionEnv_cells S.kind hkind fun env he s1 x k1 => ?_)
  subst he
  refine ⟨lim.keeps x.toInCall.keep, codeAny_func ?_⟩
  obtain ⟨t, ht, hq⟩ := hbody cdv A outer s H vs n Q E (hr.deeper _) hsp
  have I : Inv (cxOf CX P w K mg base N qual (defScope st) f cdv A outer s H E) [] (start N vs) H s1 := inv_start S hr.hd e0 hl r x
  refine wpAny_mono (ht.run [] s1 (start N vs) H n _ k1 I hq) (fun fl s' hs => ?_) fun e s' hs => hs
  cases fl with
  | ret u =>
    obtain ⟨v, σ', H', n', J, rv, k', q⟩ := hs
    exact ⟨v, H', n', J.os, J.bare, J.base, J.hok, rv, k', q⟩
  | next =>
    obtain ⟨σ', H', n', J, k', q⟩ := hs
    exact ⟨.non, H', n', J.os, J.bare, J.base, J.hok, rfl, k', q⟩
  | brk => exact False.elim hs
  | cont => exact False.elim hs
/-- a def whose body begins with one token out -/
theorem okT {sp : Sp} (F : FnP K x qual st f fd) (S : FnScope N ps (defScope st)) (hnc : ∀ y ∈ (defScope st).names, y.2 ≠ .cell) (hps : 1 ≤ ps.length) (len : ∀ vs H Q E, sp vs H Q E → vs.length = ps.length)
    (hbody : ∀ (cdv : Value) (A : Around) (outer : List Env) (s : Shared) (H : Hp) (vs : List V) (Q : VK) (E : XK), Room k (A.deeper (envOfC qual (defScope st) s.heap.objs.size f cdv)) → sp vs H Q E →
      ∃ t, PSsc (cxOf CX P w K mg base N qual (defScope st) f cdv A outer s H E) (defBody st) t ∧ t { nx := fun _ H' _ => Q .non H', rt := fun _ v H' _ => Q v H' } (start N vs) H 1) : FnOk P w K mg base CX (k + 1) f fd ps sp := by
  obtain ⟨oc, od, dV, kV, doc, pm, an, cdv, ct, osl, rfl, lk, hcd, _, _⟩ := F.ex
  refine fn_ofT lk hcd S hnc hps len fun A outer s H vs Q E hr hsp => ?_
  obtain ⟨t, ht, hq⟩ := hbody cdv A outer s H vs Q E hr hsp
  refine ⟨fun D σ H' => t { nx := fun σ' H' _ => D.nx σ' H', rt := fun _ v H' _ => D.rt v H' } σ H' 1, fun pins s1 σ H1 D h1 I q => ?_, hq⟩
  refine wpAny_mono (ht.run pins s1 σ H1 1 _ h1 I q) (fun fl s' hs => ?_) fun e s' hs => hs
  cases fl with
  | ret u =>
    obtain ⟨v, σ', H', n', J, rv, k', q⟩ := hs
    exact ⟨v, σ', H', J, rv, q⟩
  | next =>
    obtain ⟨σ', H', n', J, k', q⟩ := hs
    exact ⟨σ', H', J, q⟩
  | brk => exact False.elim hs
  | cont => exact False.elim hs
end
section
variable {P : Program} {w : World} {K : Frag} {mg : Str → Option Value} {base : Heap} {CX : CXT} {k : Nat} {x m qual : Str} {C : Addr} {st : Stmt} {ps : List Str} {sp : Spc}
theorem FnAt.dnC (A : FnAt K mg x st ps) (h : ∀ f fd, FnP K x x st f fd → FnC P w K mg base CX k f fd ps sp) : DnC P w K mg base CX k x ps sp := by
  obtain ⟨f, fd, h1, h2, h3⟩ := A.ex
  exact ⟨f, fd, h2, h1.kp, h3, h f fd h1⟩
theorem FnMt.dmC (A : FnMt K C m qual st ps) (h : ∀ f fd, FnP K m qual st f fd → FnC P w K mg base CX k f fd ps sp) : DmC P w K mg base CX k C m ps sp := by
  obtain ⟨f, fd, h1, h2, h3⟩ := A.ex
  exact ⟨f, fd, h2, h3, h f fd h1⟩
end
/-! ### instances known exactly -/
def inX (x C dx : Addr) : HO := .ext fun h => h.get? x = some (PySem.W.instObj C dx)
def nsX (dx : Addr) (mA : Str → Option Value) : HO := .ext fun h => h.Ns1 dx mA
structure XIns (H : Hp) (x C dx : Addr) (mA : Str → Option Value) : Prop where
  hi : H x = some (inX x C dx)
  hd : H dx = some (nsX dx mA)
  ne : dx ≠ x
theorem XIns.mono {H H' : Hp} {x C dx : Addr} {mA : Str → Option Value} (s : Same H H') (h : XIns H x C dx mA) : XIns H' x C dx mA := ⟨s _ _ h.hi, s _ _ h.hd, h.ne⟩
def putM (f : Str) (u : Value) (mA : Str → Option Value) : Str → Option Value := fun y => if y = f then some u else mA y
section
variable {X : Cx} {pins : List (Addr × Obj)} {σ : L2.St} {H : Hp} {s : Shared} {x C dx : Addr} {mA : Str → Option Value} {e : Expr} {es rest : List Expr} {ta : TE} {f : Str} {pos p1 p2 p3 : Pos}
theorem XIns.obj (h : XIns H x C dx mA) (I : Inv X pins σ H s) : ObjM s.heap x dx C mA := ⟨(I.hok x _ h.hi).1, (I.hok dx _ h.hd).1, h.ne⟩
/-- e.f of such an instance -/
def tFldX (K : Frag) (ta : TE) (f : Str) : TE := fun σ H Q => ta σ H fun x H1 => ∃ a C dx mA u v, x = .ref a ∧ XIns H1 a C dx mA ∧ Cls K C ∧ NoAttr K C f ∧ mA f = some u ∧ RelV v u ∧ Q v H1
theorem pe_fldX (he : PE X e ta) (hb : attributeBase e f X.env (eval e X.env) = eval e X.env) : PE X (.Attribute e f pos) (tFldX X.K ta f) := by
  refine ⟨fun pins s σ H Q I h => ?_⟩
  refine attr_of hb (thn (he.run pins s σ H _ I h) fun u s1 ⟨x, H1, I1, rx, a, C, dx, mA, w, v, ex, ea, c, n, l, r, q⟩ => ?_)
  subst ex
  obtain rfl : u = Value.ref a := rx
  exact get_map I1.kIn (ea.obj I1) (c.get f) c.hd n l (handed_of r) ⟨v, H1, I1.tok _, r, q⟩
/-- .. its raw value -/
def cFldX (K : Frag) (ta : TE) (f : Str) : TEc := fun σ H n Q => ta σ H fun x H1 => ∃ a C dx mA u v, x = .ref a ∧ XIns H1 a C dx mA ∧ Cls K C ∧ NoAttr K C f ∧ mA f = some u ∧ RelV v u ∧ Q u v H1 n
theorem pec_fldX (he : PE X e ta) (hb : attributeBase e f X.env (eval e X.env) = eval e X.env) : PEc X (.Attribute e f pos) (cFldX X.K ta f) := by
  refine ⟨fun pins s σ H n Q hn I h => ?_⟩
  refine attr_of hb (wpAny_mono (wpAny_toks_of hn (he.run pins s σ H _ I h)) (fun u s1 z => ?_) fun _ _ z => z.2)
  obtain ⟨k1, x, H1, I1, rx, a, C, dx, mA, w, v, ex, ea, c, n', l, r, q⟩ := z
  subst ex
  obtain rfl : u = Value.ref a := rx
  exact get_map I1.kIn (ea.obj I1) (c.get f) c.hd n' l (handed_of r) ⟨v, H1, n, I1.tok _, r, Nat.le_succ_of_le k1, q⟩
theorem ini_step {sts : List Stmt} {A : Around} {sN vN : Str} {m : Str → Option Value} {u : Value} {ns : List Str} {Q : Flow → Shared → Prop} {E : Value → Shared → Prop} (I : Inv X pins σ H s) (hn : s.heap.Ns X.env.locals m) (ks : X.env.kindOf sN = some .local) (ms : m sN = some (.ref x))
    (kv : X.env.kindOf vN = some .local) (mv : m vN = some u) (XI : XIns H x C dx mA) (c : Cls X.K C) (na : NoAttr X.K C f) (wi : PySem.Within mA ns) (hz : ns.length ≤ sizeLine)
    (hs : swapsWith (.Name vN p3) (some (.Attribute (.Name sN p1) f p2)) pos.line X.env = pure false) (hd1 : (sN == ("__debug__" : Str)) = false) (hd2 : (vN == ("__debug__" : Str)) = false)
    (next : ∀ s', Inv X pins σ (upd H dx (nsX dx (putM f u mA))) s' → s'.heap.Ns X.env.locals m → XIns (upd H dx (nsX dx (putM f u mA))) x C dx (putM f u mA) → wpAny (model X.prog X.w) A (execs sts X.env) Q E s') :
    wpAny (model X.prog X.w) A (execs (.Assign [.Attribute (.Name sN p1) f p2] (.Name vN p3) pos :: sts) X.env) Q E s := by
  have nl : dx ≠ X.env.locals := fun z => by
    have q := XI.hd
    rw [z, I.free] at q
    cases q
  refine wpAny_execs_cons (plainObj_wpAny_Assign_Attribute (wpAny_Name (wpAny_loadName_local I.ok.kind kv hn mv (wpAny_Name (wpAny_loadName_local I.ok.kind ks hn ms ?_) hd1)) hd2) hs)
  refine set_map I.kIn (XI.obj I) c.sa c.po na.taker c.hd wi hz fun h' O' sb => ?_
  have I2 : Inv X pins σ (upd H dx (nsX dx (putM f u mA))) { s with heap := h', toks := s.toks + 2 } := by
    obtain ⟨o, es, ep, ho, r⟩ := O'.ns
    refine I.write (x := dx) (e := dx) (by rw [XI.hd]; trivial) (.inl rfl) (fun b q hb z => (sb.2 b hb).trans z) ⟨o, ho⟩ ⟨O'.ns, ⟨o, ho⟩, fun h1 h2 a b => a.at b⟩
  exact next _ I2 ((show s.heap.Ns X.env.locals m from hn).sameBut sb (Ne.symm nl)) ⟨by rw [upd_ne (Ne.symm XI.ne)]; exact XI.hi, upd_same, XI.ne⟩
/-- a new instance, tracked exactly, without attributes -/
theorem _root_.L2.Inv.madeX (I : Inv X pins σ H s) : Inv X pins σ (upd (upd H s.heap.objs.size (nsX s.heap.objs.size fun _ => none)) (s.heap.objs.size + 1) (inX (s.heap.objs.size + 1) C s.heap.objs.size))
    { s with heap := (s.heap.push PySem.W.emptyDict).push (PySem.W.instObj C s.heap.objs.size) } := by
  have e1 : (s.heap.push PySem.W.emptyDict).get? s.heap.objs.size = some PySem.W.emptyDict := Heap.get?_push_size s.heap rfl
  have e2 : ((s.heap.push PySem.W.emptyDict).push (PySem.W.instObj C s.heap.objs.size)).get? (s.heap.objs.size + 1) = some (PySem.W.instObj C s.heap.objs.size) := by
    have := Heap.get?_push_size (s.heap.push PySem.W.emptyDict) (o := PySem.W.instObj C s.heap.objs.size) rfl
    rwa [Heap.size_push] at this
  have e3 : (s.heap.push PySem.W.emptyDict).Ns s.heap.objs.size (fun _ => none) := ⟨PySem.W.emptyDict, #[], _, e1, rfl, (fun e he => absurd he (by simp)), fun _ => rfl⟩
  have I1 := I.laid (a := s.heap.objs.size) (o := nsX s.heap.objs.size fun _ => none) (h' := s.heap.push PySem.W.emptyDict) (t' := s.toks) (fun b u q => Heap.get?_push_of_some _ q) (Nat.le_refl _) ⟨Heap.Ns1.of_empty e3, ⟨_, e1⟩, fun h1 h2 a b => a.at b⟩
  exact I1.laid (a := s.heap.objs.size + 1) (o := inX (s.heap.objs.size + 1) C s.heap.objs.size) (t' := s.toks) (fun b u q => Heap.get?_push_of_some _ q) (Nat.le_of_eq (Heap.size_push _ _)) ⟨e2, ⟨_, e2⟩, fun h1 h2 a b => b _ a⟩
end
/-! ### Token -/
abbrev s_Token_init : Stmt := inClass (topS 36) 0
theorem sc_Token_init : FnScope ["self", "kind", "text", "number", "place"] ["self", "kind", "text", "number", "place"] (defScope s_Token_init) := ⟨rfl, rfl, rfl, by decide +kernel, rfl, by decide +kernel, by decide +kernel⟩
def tokMap (uk ut un up : Value) : Str → Option Value := putM "place" up (putM "number" un (putM "text" ut (putM "kind" uk fun _ => none)))
def TokRun (P : Program) (w : World) (K : Frag) (mg : Str → Option Value) (base : Heap) (f : Addr) : Prop :=
  ∀ (A : Around) (outer : List Env) (s : Shared) (H : Hp) (x dx : Addr) (uk ut un up : Value) (vs : List V), Room 1 A → Env0 P w K mg base A outer s H → Vals vs [uk, ut, un, up] → XIns H x (cA K "Token") dx (fun _ => none) →
    codeAny (model P w) A (.call (.ref f) ⟨[.ref x, uk, ut, un, up], []⟩) (fun r s' => match r with
      | .ok (.ret u) => CE outer P w H s (fun v H' => v = .non ∧ H' = upd H dx (nsX dx (tokMap uk ut un up))) u s'
      | _ => False) s
structure DTok (P : Program) (w : World) (K : Frag) (mg : Str → Option Value) (base : Heap) : Prop where
  ex : ∃ f, Mk K (cA K "Token") f ∧ mg "Token" = some (.ref (cA K "Token")) ∧ TokRun P w K mg base f
section
variable {P : Program} {w : World} {K : Frag} {mg : Str → Option Value} {base : Heap}
theorem ok_new_Token (A0 : FnCl K mg "Token" (cA K "Token") "Token.__init__" s_Token_init ["self", "kind", "text", "number", "place"]) (T : Txt K mg) : DTok P w K mg base := by
  obtain ⟨f, fd, F, h1, h2, h3⟩ := A0.ex
  refine ⟨f, h1, h2, ?_⟩
  obtain ⟨oc, od, dV, kV, doc, pm, an, cdv, ct, osl, rfl, lk, hcd, _, _⟩ := F.ex
  intro A outer s H x dx uk ut un up vs hr e0 r XI
  have S := sc_Token_init
  have r2 : Vals (.ref x :: vs) [.ref x, uk, ut, un, up] := .cons rfl r
  have hl : (V.ref x :: vs).length = (["self", "kind", "text", "number", "place"] : List Str).length := r2.length
  have KX : K.In s.heap := e0.mod.kin.keeps fun b o e => (e0.bs b o e).1
  have lim : s.heap.NoLimit := e0.mod.nolimit.keeps fun b o e => (e0.bs b o e).1
  have hb := h3 s [.ref x, uk, ut, un, up] KX rfl
  rw [List.append_nil] at hb
  have hkind : ∀ y ∈ (["self", "kind", "text", "number", "place"] : List Str).zip [Value.ref x, uk, ut, un, up], (defScope s_Token_init).names.lookup y.1 = some .local ∨ ((defScope s_Token_init).names.lookup y.1 = some .cell ∧ ((cellsFrom (s.heap.objs.size + 1) (defScope s_Token_init).names []).lookup y.1).isSome = true) := fun ⟨n, v⟩ hy => by
    rcases S.par n (List.of_mem_zip hy).1 with q | q
    · exact .inl q
    · exact .inr ⟨q, PySem.W.cellsFrom_some _ _ _ (.inl q)⟩
  refine codeAny_call_function hr.depth (KX _ _ lk) rfl S.co S.gen rfl (PySem.W.codeRec_of KX hcd) (hb _ _ _ _ ?_)
  refine wpAny_newFunctionEnv_cells S.kind hkind fun env he s1 x => ?_
  subst he
  refine ⟨lim.keeps x.toInCall.keep, codeAny_func ?_⟩
  have I : Inv (cxOf CX0 P w K mg base ["self", "kind", "text", "number", "place"] "Token.__init__" (defScope s_Token_init) f cdv A outer s H E0) [] (start ["self", "kind", "text", "number", "place"] (.ref _ :: vs)) H s1 := inv_start S hr.hd e0 hl r2 x
  have hn := x.toInCall.ns
  refine ini_step (f := "kind") (ns := []) I hn rfl rfl rfl rfl XI T.cl_Token T.na_Token_kind PySem.Within.nil (by decide) rfl rfl rfl fun s2 I2 n2 X2 => ?_
  refine ini_step (f := "text") (ns := ["kind"]) I2 n2 rfl rfl rfl rfl X2 T.cl_Token T.na_Token_text (PySem.Within.cons _ _ PySem.Within.nil) (by decide) rfl rfl rfl fun s3 I3 n3 X3 => ?_
  refine ini_step (f := "number") (ns := ["text", "kind"]) I3 n3 rfl rfl rfl rfl X3 T.cl_Token T.na_Token_number (PySem.Within.cons _ _ (PySem.Within.cons _ _ PySem.Within.nil)) (by decide) rfl rfl rfl fun s4 I4 n4 X4 => ?_
  refine ini_step (f := "place") (ns := ["number", "text", "kind"]) I4 n4 rfl rfl rfl rfl X4 T.cl_Token T.na_Token_place (PySem.Within.cons _ _ (PySem.Within.cons _ _ (PySem.Within.cons _ _ PySem.Within.nil))) (by decide) rfl rfl rfl fun s5 I5 n5 X5 => ?_
  refine wpAny_execs_nil ?_
  rw [upd_upd, upd_upd, upd_upd] at I5
  exact ⟨.non, _, I5.os, I5.bare, I5.base, I5.hok, rfl, rfl, rfl⟩
end
section
variable {X : Cx} {pins : List (Addr × Obj)} {σ : L2.St} {H : Hp} {s : Shared} {e : Expr} {es : List Expr} {ta : TA} {tac : TAc} {pos p : Pos}
theorem run_tok (D : DTok X.prog X.w X.K X.mg X.base) {f : Addr} (h1 : Mk X.K (cA X.K "Token") f) (F : TokRun X.prog X.w X.K X.mg X.base f) (hr : Room 2 X.A) (I : Inv X pins σ H s) {uk ut un up : Value} {vs : List V} (r : Vals vs [uk, ut, un, up]) {Q : Value → Shared → Prop}
    (h : ∀ x dx s', H x = none → H dx = none → dx ≠ x → Inv X pins σ (upd (upd H dx (nsX dx (tokMap uk ut un up))) x (inX x (cA X.K "Token") dx)) s' → Q (.ref x) s') : wpAny (model X.prog X.w) X.A (call (.ref (cA X.K "Token")) [uk, ut, un, up]) Q X.xe s := by
  have hx : H (s.heap.objs.size + 1) = none := I.hok.fresh (Nat.le_succ _)
  have hd : H s.heap.objs.size = none := I.hok.fresh (Nat.le_refl _)
  have ne : s.heap.objs.size ≠ s.heap.objs.size + 1 := Nat.ne_of_lt (Nat.lt_succ_self _)
  have I2 := Inv.madeX (C := cA X.K "Token") I
  have XI : XIns (upd (upd H s.heap.objs.size (nsX s.heap.objs.size fun _ => none)) (s.heap.objs.size + 1) (inX (s.heap.objs.size + 1) (cA X.K "Token") s.heap.objs.size)) (s.heap.objs.size + 1) (cA X.K "Token") s.heap.objs.size (fun _ => none) :=
    ⟨upd_same, by rw [upd_ne ne, upd_same], ne⟩
  refine wpAny_call (make_map (f := f) I.kIn h1.makes h1.init (beq_iff_eq.mp h1.fn) (codeAny_mono (F _ X.stack _ _ _ _ uk ut un up vs (hr.make (cA X.K "Token") [uk, ut, un, up] [])
    (I2.env0.make (cA X.K "Token") [uk, ut, un, up] []) r XI) fun r s' hq' => ?_))
  cases r with
  | error e => exact hq'.elim
  | ok fl =>
    cases fl with
    | ret u =>
      obtain ⟨v, H', I3, rv, ev, q3⟩ := I2.after hq'
      subst ev
      subst q3
      refine ⟨rv, h _ _ s' hx hd ne ?_⟩
      have e : upd (upd (upd H s.heap.objs.size (nsX s.heap.objs.size fun _ => none)) (s.heap.objs.size + 1) (inX (s.heap.objs.size + 1) (cA X.K "Token") s.heap.objs.size)) s.heap.objs.size (nsX s.heap.objs.size (tokMap uk ut un up)) =
          upd (upd H s.heap.objs.size (nsX s.heap.objs.size (tokMap uk ut un up))) (s.heap.objs.size + 1) (inX (s.heap.objs.size + 1) (cA X.K "Token") s.heap.objs.size) := by
        funext b
        by_cases b1 : b = s.heap.objs.size
        · rw [b1, upd_same, upd_ne ne, upd_same]
        · rw [upd_ne b1]
          by_cases b2 : b = s.heap.objs.size + 1
          · rw [b2, upd_same, upd_same]
          · rw [upd_ne b2, upd_ne b2, upd_ne b1, upd_ne b1]
      rw [← e]
      exact I3
    | next => exact False.elim hq'
    | brk => exact False.elim hq'
    | cont => exact False.elim hq'
theorem vals4 {a b c d : V} {us : List Value} (r : Vals [a, b, c, d] us) : ∃ ua ub uc ud, us = [ua, ub, uc, ud] ∧ RelV a ua ∧ RelV b ub ∧ RelV c uc ∧ RelV d ud := by
  cases r with
  | cons r1 r => cases r with
    | cons r2 r => cases r with
      | cons r3 r => cases r with
        | cons r4 r => cases r; exact ⟨_, _, _, _, rfl, r1, r2, r3, r4⟩
/-- Token(k, t, n, p) -/
def cTok (K : Frag) (t : TAc) : TEc := fun σ H n Q => t σ H n fun us vs H1 n1 => ∃ a b c d, vs = [a, b, c, d] ∧ ∀ uk ut un up, us = [uk, ut, un, up] → RelV a uk → RelV b ut → RelV c un → RelV d up → ∀ x dx, H1 x = none → H1 dx = none → dx ≠ x →
  Q (.ref x) (.ref x) (upd (upd H1 dx (nsX dx (tokMap uk ut un up))) x (inX x (cA K "Token") dx)) n1
theorem pec_tok (D : DTok X.prog X.w X.K X.mg X.base) (hr : Room 2 X.A) (ha : PAc X (e :: es) tac) (hg : Gl X "Token" := by rfl)
    (he : starEach (e :: es) X.env = (false, eval e X.env) :: starEach es X.env := by rfl) (hpl : (backTo pos (starEach es X.env)).any (·.1) = false := by rfl) : PEc X (.Call (.Name "Token" p) (e :: es) [] pos) (cTok X.K tac) := by
  obtain ⟨f, h1, h2, h3⟩ := D.ex
  refine ⟨fun pins s σ H n Q hn I h => ?_⟩
  refine wpAny_Call_Name_kw (ld_glob I hg h2 ?_ (by decide))
  refine PySem.W.callWith_K (h₀ := X.base) I.ok.mod.kin h1.kp (thn (ha.run pos pins s σ H n _ hn I h) fun us s1 ⟨vs, H1, n1, I1, r, k1, a, b, c, d, ev, q⟩ => ⟨I1.kIn, ?_⟩) he hpl
  subst ev
  obtain ⟨uk, ut, un, up, rfl, ra, rb, rc, rd⟩ := vals4 r
  refine wpAny_mono (wpAny_toks_of k1 (run_tok (Q := fun u s' => ∃ x dx, H1 x = none ∧ H1 dx = none ∧ dx ≠ x ∧ Inv X pins σ (upd (upd H1 dx (nsX dx (tokMap uk ut un up))) x (inX x (cA X.K "Token") dx)) s' ∧ u = .ref x) D h1 h3 hr I1 r fun x dx s' a1 a2 a3 I2 => ⟨x, dx, a1, a2, a3, I2, rfl⟩)) (fun u s2 z => ?_) fun _ _ z => z.2
  obtain ⟨k2, x, dx, a1, a2, a3, I2, rfl⟩ := z
  exact ⟨.ref x, _, n1, I2, rfl, k2, q uk ut un up rfl ra rb rc rd x dx a1 a2 a3⟩
def tTok (K : Frag) (t : TA) : TE := fun σ H Q => t σ H fun vs H1 => ∃ a b c d, vs = [a, b, c, d] ∧ ∀ uk ut un up, RelV a uk → RelV b ut → RelV c un → RelV d up → ∀ x dx, H1 x = none → H1 dx = none → dx ≠ x →
  Q (.ref x) (upd (upd H1 dx (nsX dx (tokMap uk ut un up))) x (inX x (cA K "Token") dx))
theorem pe_tok (D : DTok X.prog X.w X.K X.mg X.base) (hr : Room 2 X.A) (ha : PA X (e :: es) ta) (hg : Gl X "Token" := by rfl)
    (he : starEach (e :: es) X.env = (false, eval e X.env) :: starEach es X.env := by rfl) (hpl : (backTo pos (starEach es X.env)).any (·.1) = false := by rfl) : PE X (.Call (.Name "Token" p) (e :: es) [] pos) (tTok X.K ta) := by
  obtain ⟨f, h1, h2, h3⟩ := D.ex
  refine ⟨fun pins s σ H Q I h => ?_⟩
  refine wpAny_Call_Name_kw (ld_glob I hg h2 ?_ (by decide))
  refine PySem.W.callWith_K (h₀ := X.base) I.ok.mod.kin h1.kp (thn (ha.run pos pins s σ H _ I h) fun us s1 ⟨vs, H1, I1, r, a, b, c, d, ev, q⟩ => ⟨I1.kIn, ?_⟩) he hpl
  subst ev
  obtain ⟨uk, ut, un, up, rfl, ra, rb, rc, rd⟩ := vals4 r
  exact run_tok D h1 h3 hr I1 r fun x dx s' a1 a2 a3 I2 => ⟨.ref x, _, I2, rfl, q uk ut un up ra rb rc rd x dx a1 a2 a3⟩
end
end Lp
end
section
set_option maxHeartbeats 4000000
/-! ### a list comprehension whose items are new texts: their tokens -/
namespace Lp
open PySem PySem.Spec PyProof.Rows L2
open PySem.W (Frag)
/-- a text whose token was given out between two clocks -/
def StrIn (n k : Nat) (u : Value) : Prop := ∃ x t, u = .str x t ∧ n ≤ t ∧ t < k
theorem StrIn.wide {n n' k k' : Nat} {u : Value} (h1 : n' ≤ n) (h2 : k ≤ k') : StrIn n k u → StrIn n' k' u := fun ⟨x, t, a, b, c⟩ => ⟨x, t, a, Nat.le_trans h1 b, Nat.lt_of_lt_of_le c h2⟩
section
variable {α : Type} {M : Model} {A : Around} {s : Shared} {t : Sem α} {Q Q' : α → Shared → Prop} {E : Value → Shared → Prop} {n : Nat}
theorem thnFk (hn : n ≤ s.toks) (h : wpAny M A t Q (fun _ _ => False) s) (hQ : ∀ a s', n ≤ s'.toks → Q a s' → Q' a s') : wpAny M A t Q' E s := wpAny_mono (wpAny_toks_of hn h) (fun a s' z => hQ a s' z.1 z.2) fun _ _ z => z.2.elim
theorem thnk (hn : n ≤ s.toks) (h : wpAny M A t Q E s) (hQ : ∀ a s', n ≤ s'.toks → Q a s' → Q' a s') : wpAny M A t Q' E s := wpAny_mono (wpAny_toks_of hn h) (fun a s' z => hQ a s' z.1 z.2) fun _ _ z => z.2
end
section
variable {X : Cx} {pins : List (Addr × Obj)} {σ : L2.St} {H : Hp} {s : Shared} {n : Nat}
theorem lcR_run {elt tg iter : Expr} {scope : Scope} {own : List (Str × Nat)} {pos : Pos} {wi : TI} {g : TG} {te : TEc} {a : Addr} {xs : List V} {f : V → V} (hc : X.calm = true) (hN : X.N.Nodup) (I : Inv X pins σ H s) (hn : n ≤ s.toks)
    (hi : PI X tg iter wi) (ok : BlkOk X.N X.env.scope scope own) (ha : H a = some (.lst xs)) (hz : xs.length ≤ 100000) (hwi : wi σ H fun J H1 => J = Itl X.K a ∧ H1 = H)
    (hg : ∀ (s : Shared) (H : Hp) (C : Addr) (cl : List (Str × Addr)) (fp : List Addr), PG (X.blk s H scope (compEnvC scope cl C X.env) fp) tg g)
    (he : ∀ (s : Shared) (H : Hp) (C : Addr) (cl : List (Str × Addr)) (fp : List Addr) (xe : Value → Shared → Prop), PEc (wsh (X.blk s H scope (compEnvC scope cl C X.env) fp) xe) elt te)
    (hte : ∀ x ∈ xs, ∀ H', g x (wipe σ (own.map (·.2))) H' fun σ2 H2 => wipe σ2 (own.map (·.2)) = wipe σ (own.map (·.2)) ∧ H2 = H' ∧ ∀ n', te σ2 H' n' fun u y H3 n3 => y = f x ∧ H3 = H' ∧ StrIn n' n3 u)
    (hs : ∀ x, foldedSetIterable iter X.env x = pure x := by intro _; rfl) :
    wpAny (model X.prog X.w) X.A (eval (.ListComp elt [⟨tg, iter, [], 0⟩] scope pos) X.env) (fun u s' => ∃ D its m, u = .ref D ∧ H D = none ∧ Inv X pins σ (upd H D (.lst (xs.map f))) s' ∧ n ≤ s'.toks ∧
      s'.heap.get? D = some { cls := .type "list", data := .seq its.toArray m } ∧ Vals (xs.map f) its ∧ ∀ u ∈ its, StrIn n s'.toks u) X.xe s := by
  rw [eval_ListComp]
  have hfree : ∀ y ∈ scope.names, y.2 = .free → ∃ c, X.env.cells.lookup y.1 = some c := fun y hy e => by
    rcases ok.free y hy e with k | k
    · exact I.ok.has _ (.inl k)
    · exact I.ok.has _ (.inr k)
  refine comp_freeX rfl hs (closure_ok hfree) ok.kind (fun y hy e => by rw [ok.uniq y hy, e]) (thnk hn (hi.run pins s σ H _ I hwi) fun xv s1 k1 hx => thnk k1 hx fun itv s2 k2 h2 => ?_)
  obtain ⟨it, fp, tn, J, H2, e, I2, T, st2, f2, rfl, rfl⟩ := h2
  subst e
  refine wpAny_newObj_type (newEnv_comp ?_) (by show 0 ≤ sizeLine; decide)
  generalize hD : s2.heap.objs.size = D
  have hDn : H2 D = none := I2.hok.fresh (Nat.le_of_eq hD)
  have hDa : a ≠ D := fun z => by
    rw [z, hDn] at ha
    cases ha
  generalize hs3 : ({ s2 with heap := s2.heap.push { cls := .type "list", data := .seq ([] : List Value).toArray } } : Shared) = s3
  have I3 : Inv X pins σ (upd H2 D (.lst [])) s3 := by
    rw [← hs3]
    refine I2.laid (t' := s2.toks) (fun b o e => Heap.get?_push_of_some _ e) (Nat.le_of_eq hD) ⟨Nat.zero_le _, [], 0, .nil, ?_⟩
    rw [← hD]
    exact Heap.get?_push_size _ rfl
  have h3 : s3.heap = s2.heap.push { cls := .type "list", data := .seq ([] : List Value).toArray } := by rw [← hs3]
  have d3 : s3.heap.get? D = some { cls := .type "list", data := .seq ([] : List Value).toArray } := by
    rw [h3, ← hD]
    exact Heap.get?_push_size _ rfl
  have k3 : n ≤ s3.toks := by rw [← hs3]; exact k2
  have f3 : ∀ b ∈ fp, FpOk X pins (upd H2 D (.lst [])) b ∧ b < s3.heap.objs.size := fun b hb => by
    obtain ⟨o, e, _⟩ := T.obj _ _ st2 b hb
    have hlt := Heap.lt_size e
    refine ⟨⟨?_, (f2 b hb).2⟩, by rw [h3, Heap.size_push]; exact Nat.lt_succ_of_lt hlt⟩
    rw [upd_ne (by rw [← hD]; exact Nat.ne_of_lt hlt)]
    exact (f2 b hb).1
  have st3 : tn 0 s3.heap := T.keep _ _ _ st2 fun b _ o e => by rw [h3]; exact Heap.get?_push_of_some _ e
  have I4 := block_start I3 ok hN f3
  have pg := hg s3 (upd H2 D (.lst [])) s3.heap.objs.size (cellsFrom (s3.heap.objs.size + 1) scope.names (cloFrom X.env.cells scope.names [])) fp
  have pe := he s3 (upd H2 D (.lst [])) s3.heap.objs.size (cellsFrom (s3.heap.objs.size + 1) scope.names (cloFrom X.env.cells scope.names [])) fp
  show codeAny _ _ (.compStart (.ListComp elt [⟨tg, iter, [], 0⟩] scope pos) 0 (.ref it) (.ref D) (compEnvC scope (cellsFrom (s3.heap.objs.size + 1) scope.names (cloFrom X.env.cells scope.names [])) s3.heap.objs.size X.env))
    (compPostX (model X.prog X.w) X.A X.xe _ (.ref D) (compEnvC scope (cellsFrom (s3.heap.objs.size + 1) scope.names (cloFrom X.env.cells scope.names [])) s3.heap.objs.size X.env)) { s3 with heap := pushCells (s3.heap.push { cls := .type "dict", data := .dict #[] }) scope.names }
  have nfp : ∀ b ∈ fp, ∀ o, (upd H2 D o) b = none := fun b hb o => by
    have z := (f3 b hb).1.1
    by_cases c : b = D
    · rw [c, upd_same] at z
      cases z
    · rw [upd_ne c] at z ⊢
      exact z
  generalize hce : compEnvC scope (cellsFrom (s3.heap.objs.size + 1) scope.names (cloFrom X.env.cells scope.names [])) s3.heap.objs.size X.env = ce at I4 pg pe ⊢
  have cL : ce.locals = s3.heap.objs.size := by subst hce; rfl
  have cF : ce.frame = X.env.frame := by subst hce; rfl
  generalize hs4 : ({ s3 with heap := pushCells (s3.heap.push { cls := .type "dict", data := .dict #[] }) scope.names } : Shared) = s4 at I4 ⊢
  have st4 : tn 0 s4.heap := T.keep _ _ _ st3 fun b _ o e => by rw [← hs4]; exact pushCells_keeps _ _ _ _ (Heap.get?_push_of_some _ e)
  have d4 : s4.heap.get? D = some { cls := .type "list", data := .seq ([] : List Value).toArray } := by
    rw [← hs4]
    exact pushCells_keeps _ _ _ _ (Heap.get?_push_of_some _ d3)
  have k4 : n ≤ s4.toks := by rw [← hs4]; exact k3
  have stat : ∀ {pn : List (Addr × Obj)} {σ' : L2.St} {H' : Hp} {s' : Shared}, Inv (X.blk s3 (upd H2 D (.lst [])) scope ce fp) [] σ' H' s' → (∀ b ∈ fp, H' b = none) → ∀ b ∈ fp, FpOk (X.blk s3 (upd H2 D (.lst [])) scope ce fp) [] H' b := fun {_ σ' H' s'} I' hn b hb =>
    ⟨hn b hb, (I'.ok.exf b hb).1, I'.ok.exfs b hb, .inl hb, fun x c e => (I'.ok.exf b hb).2 x c e, fun p hp => absurd (show p ∈ ([] : List (Addr × Obj)) ++ [] from hp) (by simp)⟩
  have back : ∀ {pn' : List (Addr × Obj)} {σ' : L2.St} {H' : Hp} {s' : Shared}, Inv (X.blk s3 (upd H2 D (.lst [])) scope ce fp) pn' σ' H' s' → Inv X pins σ H' s' ∧ (∃ m, s'.heap.Ns s3.heap.objs.size m) ∧ FpOk X pins H' s3.heap.objs.size := fun {pn' σ' H' s'} I' => by
    have nC : H' s3.heap.objs.size = none := by
      have z : H' ce.locals = none := I'.free
      rw [cL] at z
      exact z
    obtain ⟨m, hn, _⟩ := I'.loc
    have hn : s'.heap.Ns ce.locals m := hn
    rw [cL] at hn
    exact ⟨I3.call' (ch := fp) I'.os I'.base I'.hok I'.bare fun b hb => ⟨(f3 b hb).1.2.2.2.1, (f3 b hb).1.2.1, (f3 b hb).1.2.2.2.2.1, (f3 b hb).1.2.2.2.2.2⟩, ⟨m, hn⟩, I3.fpOk (Nat.le_refl _) nC⟩
  have loop : codeAny (model X.prog X.w) X.A (.compLoop (.ListComp elt [⟨tg, iter, [], 0⟩] scope pos) 0 (.ref it) (.ref D) ce) (compPostX (model X.prog X.w) X.A X.xe (fun u s' => ∃ D its m, u = .ref D ∧ H2 D = none ∧ Inv X pins σ (upd H2 D (.lst (xs.map f))) s' ∧ n ≤ s'.toks ∧
      s'.heap.get? D = some { cls := .type "list", data := .seq its.toArray m } ∧ Vals (xs.map f) its ∧ ∀ u ∈ its, StrIn n s'.toks u) (.ref D) ce) s4 := by
    refine compLoop_any (fun k s' => ∃ i its m, k = xs.length + 1 - i ∧ i ≤ xs.length ∧ Inv (X.blk s3 (upd H2 D (.lst [])) scope ce fp) [] (wipe σ (own.map (·.2))) (upd H2 D (.lst ((xs.take i).map f))) s' ∧ tn i s'.heap ∧ n ≤ s'.toks ∧
      s'.heap.get? D = some { cls := .type "list", data := .seq its.toArray m } ∧ (∀ u ∈ its, StrIn n s'.toks u)) ?_ (xs.length + 1) ⟨0, [], 0, rfl, Nat.zero_le _, I4, st4, k4, d4, fun u hu => nomatch hu⟩
    rintro k s5 ⟨i, its, m, rfl, hi, I5, st5, k5, d5, sz⟩
    rcases Nat.lt_or_ge i xs.length with hlt | hge
    · -- one more
      have hx : xs[i]? = some xs[i] := List.getElem?_eq_getElem hlt
      generalize hxi : xs[i] = x at hx
      have hxm : x ∈ xs := by rw [← hxi]; exact List.getElem_mem hlt
      obtain ⟨od, I5l⟩ := I5.lock upd_same True.intro
      rw [upd_upd] at I5l
      have e5 : od = { cls := .type "list", data := .seq its.toArray m } := by
        have z := (I5l.hok D _ upd_same).1
        rw [d5] at z
        cases z
        rfl
      subst e5
      have n5 : ∀ b ∈ fp, (upd H2 D (.frz { cls := .type "list", data := .seq its.toArray m } (.lst ((xs.take i).map f)))) b = none := fun b hb => nfp b hb _
      refine thnFk (Nat.le_refl s5.toks) (T.item (X.blk s3 (upd H2 D (.lst [])) scope ce fp) rfl rfl rfl hc i [] s5 _ _ (fun _ _ => False) I5l (stat (pn := []) I5l n5) st5 ⟨xs, x, .of (by rw [upd_ne hDa]; exact ha), hx⟩) fun r s6 k6 ⟨u, hr, h6⟩ => ?_
      subst hr
      refine thnFk k6 h6 fun _ s7 k7 ⟨x', H7, I7, r7, y7, st7, n7⟩ => ?_
      obtain ⟨rfl, y7⟩ := y7
      have ex : x' = x := Option.some.inj ((y7 xs (.of (by rw [upd_ne hDa]; exact ha))).symm.trans hx)
      subst ex
      have I7' := I7.pinned (stat (pn := []) I7 n7) (T.obj _ _ st7)
      refine thnFk k7 (pg.run _ s7 _ _ x' u _ I7' r7 (hte x' hxm _)) fun _ s8 k8 ⟨σ8, H8, I8, hw8, eH8, q8⟩ => ?_
      subst eH8
      refine thnFk k8 ((pts_nil (X := X.blk s3 (upd H2 D (.lst [])) scope ce fp)).run _ s8 σ8 _ (fun b H' => b = true ∧ H' = upd H2 D (.frz { cls := .type "list", data := .seq its.toArray m } (.lst ((xs.take i).map f)))) I8 ⟨rfl, rfl⟩) fun b s9 k9 ⟨H9, I9, eb, eH9⟩ => ?_
      subst eb eH9
      rw [if_pos rfl]
      refine thnk (Nat.le_refl s9.toks) ((pe _).run _ s9 σ8 _ s9.toks _ (Nat.le_refl _) (Inv.wish (X := X.blk s3 (upd H2 D (.lst [])) scope ce fp) I9 _) (q8 s9.toks)) fun z s10 k10 ⟨yv, H10, n10, I10, r10, kk, ey, eH10, sn⟩ => ?_
      subst ey eH10
      have I10 := Inv.unwish (X := X.blk s3 (upd H2 D (.lst [])) scope ce fp) I10
      have d10 : s10.heap.get? D = some { cls := .type "list", data := .seq its.toArray m } := (I10.hok D _ upd_same).1
      have I10u := I10.unlock upd_same (fun o' u' e => by
        rw [show (X.blk s3 (upd H2 D (.lst [])) scope ce fp).H_0 = upd H2 D (.lst []) from rfl, upd_same] at e
        cases e)
      rw [upd_upd] at I10u
      obtain ⟨hz', its', m', ri, e10⟩ := I10u.hok D _ upd_same
      rw [d10] at e10
      have ei : its = its' := by
        have := Option.some.inj e10
        injection this with _ _ q3 _
        injection q3 with q4 _
        have := congrArg Array.toList q4
        simpa using this
      subst ei
      have hl := ri.length
      have hlen : its.length ≤ 100000 := by
        rw [← hl, List.length_map, List.length_take]
        omega
      refine append_at (hsz := by rw [List.size_toArray]; omega) d10 fun h' sb ho' => ?_
      have e5 : (xs.take (i + 1)).map f = (xs.take i).map f ++ [f x'] := by
        rw [List.take_succ, hx, List.map_append]
        rfl
      have ho2 : h'.get? D = some { cls := .type "list", data := .seq (its ++ [z]).toArray (m + 1) } := by
        rw [ho']
        simp
      have I11 : Inv (X.blk s3 (upd H2 D (.lst [])) scope ce fp) ([] ++ pinsAt fp s7.heap) σ8 (upd H2 D (.lst ((xs.take (i + 1)).map f))) { s10 with heap := h' } := by
        have w := I10u.write (x := D) (e := D) (o := .lst ((xs.take (i + 1)).map f)) (t' := s10.toks) (h' := h') (by rw [upd_same]; trivial) (.inl rfl) (fun b u hb q => (sb.2 b hb).trans q) ⟨_, ho'⟩ ⟨by
            rw [List.length_map, List.length_take]
            have : sizeLine = 16777216 := by decide
            omega, its ++ [z], m + 1, by rw [e5]; exact ri.append (.cons r10 .nil), ho2⟩
        rw [upd_upd] at w
        exact w
      have pin' : ∀ b ∈ fp, ∀ o, s7.heap.get? b = some o → h'.get? b = some o := fun b hb o e => (I11.pin (b, o) (List.mem_append_right _ (List.mem_append_right _ (mem_pinsAt hb e)))).1
      have hlw : (wipe σ (own.map (·.2))).length = σ8.length := by rw [← hw8, wipe_length]
      refine ⟨xs.length + 1 - (i + 1), by omega, i + 1, its ++ [z], m + 1, rfl, hlt, ((I11.unpinned (pins := [])).weak hlw fun j v e => ?_), T.keep _ _ _ st7 pin', Nat.le_trans k5 (Nat.le_trans k9 k10), ho2, fun u hu => ?_⟩
      · rw [← hw8] at e
        exact (wipe_some e).1
      · rcases List.mem_append.mp hu with hu | hu
        · exact (sz u hu).wide (Nat.le_refl _) (Nat.le_trans k9 k10)
        · rw [List.mem_singleton.mp hu]
          exact sn.wide (Nat.le_trans k5 k9) kk
    · -- the end
      have hi' : i = xs.length := Nat.le_antisymm hi hge
      subst hi'
      rw [List.take_length] at I5
      obtain ⟨od, I5l⟩ := I5.lock upd_same True.intro
      rw [upd_upd] at I5l
      have e5 : od = { cls := .type "list", data := .seq its.toArray m } := by
        have z := (I5l.hok D _ upd_same).1
        rw [d5] at z
        cases z
        rfl
      subst e5
      refine thnFk (Nat.le_refl s5.toks) (T.done (X.blk s3 (upd H2 D (.lst [])) scope ce fp) rfl rfl rfl hc _ [] s5 _ _ (fun _ _ => False) I5l (stat (pn := []) I5l fun b hb => nfp b hb _) st5 ⟨xs, .of (by rw [upd_ne hDa]; exact ha), Nat.le_refl _⟩) fun r s6 k6 ⟨hr, I6⟩ => ?_
      subst hr
      have d6 : s6.heap.get? D = some { cls := .type "list", data := .seq its.toArray m } := (I6.hok D _ upd_same).1
      have I6u := I6.unlock upd_same (fun o' u' e => by
        rw [show (X.blk s3 (upd H2 D (.lst [])) scope ce fp).H_0 = upd H2 D (.lst []) from rfl, upd_same] at e
        cases e)
      rw [upd_upd] at I6u
      obtain ⟨hz', its', m', ri, e10⟩ := I6u.hok D _ upd_same
      rw [d6] at e10
      have ei : its = its' := by
        have := Option.some.inj e10
        injection this with _ _ q3 _
        injection q3 with q4 _
        have := congrArg Array.toList q4
        simpa using this
      subst ei
      obtain ⟨I7, ⟨mm, hnn⟩, g0, g1, g2, g3, g4, g5⟩ := back I6u
      refine ⟨mm, by rw [cL]; exact hnn, fun h'' sb => ?_⟩
      rw [cL] at sb
      have neD : D ≠ s3.heap.objs.size := Nat.ne_of_lt (Heap.lt_size d3)
      exact ⟨D, its, m, rfl, hDn, I7.turned (t' := s6.toks) (fun b o hb e => (sb.2 b hb).trans e) g0 g1 g3 g4 g5, Nat.le_trans k5 k6, (sb.2 D neD).trans d6, ri, fun u hu => (sz u hu).wide (Nat.le_refl _) k6⟩
  exact codeAny_compStart_list loop (T.self X.A 0 _ _ _ st4 loop)
end
end Lp
end
section
set_option maxHeartbeats 4000000
/-! ### letters_of: the token of its text -/
namespace Lp
open PySem PySem.Spec PyProof.Rows L2
open PySem.W (Frag)
open VasedBase (Bytes word showNat isLetter isDigit)
section
variable {X : Cx} {σ : L2.St} {a b : Expr} {ta tb : TE} {pos apos p : Pos}
/-- text[i], a new text -/
def cIxS (ta tb : TE) : TEc := fun σ H n Q => ta σ H fun x H1 => tb σ H1 fun y H2 => ∃ z i c, x = .str z ∧ y = .int i ∧ z.length ≤ sizeLine ∧ atI z.cps.toList i = some c ∧ ∀ t n', n ≤ t → t < n' → Q (.str ⟨#[c]⟩ t) (.str ⟨#[c]⟩) H2 n'
theorem pec_ixS (ha : PE X a ta) (hb : PE X b tb) (hs : PlainIx b) : PEc X (.Subscript a b pos) (cIxS ta tb) := by
  refine ⟨fun pins s σ H n Q hn I h => ?_⟩
  refine Subscript_ (thnk hn (ha.run pins s σ H _ I h) fun v s1 k1 ⟨x, H1, I1, r1, q1⟩ => thnk k1 (hb.run pins s1 σ H1 _ I1 q1) fun u s2 k2 ⟨y, H2, I2, r2, z, i, c, e1, e2, hz, he, q⟩ => ?_)
  subst e1 e2
  obtain ⟨t, rfl⟩ := r1
  obtain ⟨t', rfl⟩ := r2
  obtain ⟨j, h1, h2, h3, h4, h5⟩ := atI_get he
  have hl : z.cps.toList.length = z.length := by simp [Str.length]
  rw [hl] at h1 h4 h5
  have hn := line63
  exact tail_any (typeIs_str s2 z t) slot_str_getitem.lookup (getItem_str (c := c) (by
    have e1 : decide (i < -(2 ^ 63 : Int)) = false := decide_eq_false (by omega)
    have e2 : decide (i ≥ 2 ^ 63) = false := decide_eq_false (by omega)
    rw [e1, e2, Bool.or_false]) (by rw [h1]; simpa using h2) ⟨.str ⟨#[c]⟩, H2, s2.toks + 1, I2.tok _, ⟨_, rfl⟩, Nat.le_refl _, q s2.toks (s2.toks + 1) k2 (Nat.lt_succ_self _)⟩) (hs _ _)
theorem post_joinR {s : Shared} {sep : Str} {Q : Value → Shared → Prop} {n : Nat} (hn : n ≤ s.toks) : ∀ (l : List (Str × Tok)), (∀ p ∈ l, n ≤ p.2 ∧ p.2 < s.toks) → (Txt.join sep (l.map (·.1))).length ≤ sizeLine →
    (∀ t k, n ≤ t → t < k → s.toks ≤ k → Q (.str (Txt.join sep (l.map (·.1))) t) { s with toks := k }) → (joinMade sep l).post Q s
  | [], _, h, q => ⟨h, q _ _ hn (Nat.lt_succ_self _) (Nat.le_succ _)⟩
  | [p], hp, h, q => q p.2 s.toks (hp p (by simp)).1 (hp p (by simp)).2 (Nat.le_refl _)
  | _ :: _ :: _, _, h, q => ⟨h, q _ _ hn (Nat.lt_succ_self _) (Nat.le_succ _)⟩
/-- "".join([elt for ..]) where each item is a new text -/
def cJoinLc (K : Frag) (wi : TI) (g : TG) (te : TEc) (own : List (Str × Nat)) : TEc := fun σ H n Q => ∃ (a : Addr) (xs : List V) (f : V → V) (ys : List Str), H a = some (.lst xs) ∧ xs.length ≤ 100000 ∧ (wi σ H fun J H1 => J = Itl K a ∧ H1 = H) ∧
  (∀ x ∈ xs, ∀ H', g x (wipe σ (own.map (·.2))) H' fun σ2 H2 => wipe σ2 (own.map (·.2)) = wipe σ (own.map (·.2)) ∧ H2 = H' ∧ ∀ n', te σ2 H' n' fun u y H3 n3 => y = f x ∧ H3 = H' ∧ StrIn n' n3 u) ∧
  xs.map f = ys.map V.str ∧ (ys.map (·.length)).sum + ys.length * 0 ≤ 16777216 ∧ ∀ D t n', H D = none → n ≤ t → t < n' → Q (.str (Txt.join "" ys) t) (.str (Txt.join "" ys)) (upd H D (.lst (xs.map f))) n'
theorem pec_joinLc {elt tg iter : Expr} {scope : Scope} {own : List (Str × Nat)} {lpos cp : Pos} {j : Nat} {wi : TI} {g : TG} {te : TEc} (hc : X.calm = true) (hN : X.N.Nodup)
    (hi : PI X tg iter wi) (ok : BlkOk X.N X.env.scope scope own)
    (hg : ∀ (s : Shared) (H : Hp) (C : Addr) (cl : List (Str × Addr)) (fp : List Addr), PG (X.blk s H scope (compEnvC scope cl C X.env) fp) tg g)
    (he : ∀ (s : Shared) (H : Hp) (C : Addr) (cl : List (Str × Addr)) (fp : List Addr) (xe : Value → Shared → Prop), PEc (wsh (X.blk s H scope (compEnvC scope cl C X.env) fp) xe) elt te)
    (hs : ∀ x, foldedSetIterable iter X.env x = pure x := by intro _; rfl)
    (hs1 : starEach [.ListComp elt [⟨tg, iter, [], 0⟩] scope lpos] X.env = [(false, eval (.ListComp elt [⟨tg, iter, [], 0⟩] scope lpos) X.env)] := by rfl)
    (hbase : attributeBase (.Constant (.str "") j cp) "join" X.env (eval (.Constant (.str "") j cp) X.env) = eval (.Constant (.str "") j cp) X.env := by rfl) (hline : (apos.endLine == pos.line) = true := by rfl) :
    PEc X (.Call (.Attribute (.Constant (.str "") j cp) "join" apos) [.ListComp elt [⟨tg, iter, [], 0⟩] scope lpos] [] pos) (cJoinLc X.K wi g te own) := by
  refine ⟨fun pins s σ H n Q hn I h => ?_⟩
  obtain ⟨a, xs, f, ys, ha, hz, hwi, hte, hys, hsz, q⟩ := h
  refine PySem.Call_method1 hbase hs1 hline (Calls.Constant_str ?_)
  refine ⟨"str", _, F.plainAttrs_str, F.slot_str_join, F.type_str_join, typeIs_str _ _ _, (fun _ e => nomatch e), Calls.callWith_builtin rfl (Calls.evalArgs_plain (Calls.spliced_cons ?_))⟩
  refine thn (lcR_run hc hN (I.tok (s.toks + 1)) (show n ≤ s.toks + 1 from Nat.le_succ_of_le hn) hi ok ha hz hwi hg he hte hs) fun u s1 ⟨D, its, m, eu, hD, I1, k1, d1, rv, sz⟩ => ?_
  subst eu
  refine Calls.spliced_nil ?_
  rw [hys] at rv
  obtain ⟨l, hv, ht⟩ := strsAre_values (strs_of_vals rv)
  subst hv
  subst ht
  have hok := joinOk_of (sep := "") hsz
  have hok2 := hok
  unfold JoinOk at hok2
  rw [Bool.not_eq_true'] at hok2
  refine call_meets F.slot_str_join (typeIs_str _ _ _) F.entry_str_join (F.args_str_join_2 _ _) (meets_str_join_list _ _ D l hok2) ⟨⟨_, d1, rfl, m, rfl⟩, post_joinR k1 l (fun p hp => ?_) (joinFit_length hok2) fun t k h1 h2 h3 => ?_⟩
  · obtain ⟨x, t, e, h1, h2⟩ := sz (.str p.1 p.2) (List.mem_map.mpr ⟨p, hp, rfl⟩)
    cases e
    exact ⟨h1, h2⟩
  · exact ⟨.str _, _, k, I1.tok k, ⟨t, rfl⟩, Nat.le_refl _, q D t k hD h1 h2⟩
end
section
variable {P : Program} {w : World} {K : Frag} {mg : Str → Option Value} {base : Heap}
def spLettersC : Spc := fun vs H n Q _ => ∃ (a : Addr) (x : Bytes), vs = [.ref a] ∧ H a = some (.lst (vB x)) ∧ (∀ b ∈ x, isLetter b = true) ∧ x.length ≤ 100000 ∧ ∀ H' t n', Same H H' → n ≤ t → t < n' → Q (.str (sOf x) t) (vS x) H' n'
theorem ok_letters_ofC (A : FnAt K mg "letters_of" s_letters_of ["data"]) (T : Txt K mg) : DnC P w K mg base CX0 1 "letters_of" ["data"] spLettersC := A.dnC fun f fd F => by
  refine okC F sc_letters_of (fun vs H n Q E h => ?_) (fun cdv A outer s H vs n Q E hr h => ?_)
  · obtain ⟨a, x, rfl, _⟩ := h
    rfl
  obtain ⟨a, x, rfl, ha, hx, hz, k⟩ := h
  refine ⟨_, pssc_ret (pec_joinLc (own := [("byte", 1)]) (by rfl) sc_letters_of.nd (pi_list (pv 0)) (blkOk_by (own := [("byte", 1)]) (N := ["data", "byte"]) (sc := defScope s_letters_of) (by decide +kernel))
    (fun _ _ _ _ _ => by exact (pg_name (i := 1) sc_letters_of.nd rfl (Or.inl rfl)))
    (fun _ _ _ _ _ _ => by exact (pec_ixS (pe_gstr T.g_LETTERS) (pe_op op_sub (pv 1) (pe_gint T.g_FIRST_LETTER)) (fun _ _ => rfl)))), ?_⟩
  refine ⟨a, vB x, fun v => match v with | .int i => .str ⟨#[i.toNat]⟩ | v => v, x.map fun b => sOf [b], ha, ?_, ⟨_, rfl, a, rfl, ⟨_, .of ha⟩, rfl, rfl⟩, ?_, ?_, ?_, ?_⟩
  · rw [List.length_map]; exact hz
  · intro v hv H'
    obtain ⟨b, hb, rfl⟩ := List.mem_map.mp hv
    refine ⟨rfl, rfl, fun n' => ⟨_, rfl, _, _, rfl, rfl, _, _, _, rfl, rfl, by decide, letter_at b (hx b hb), fun t n2 h1 h2 => ⟨?_, rfl, _, _, rfl, h1, h2⟩⟩⟩
    rfl
  · rw [List.map_map, List.map_map]
    exact List.map_congr_left fun b _ => rfl
  · have e : (x.map fun b => sOf [b]) = ((x.map fun b => [b]).map sOf) := by rw [List.map_map]; rfl
    rw [e, sum_len, flat_singles]
    omega
  · intro D t n' hD h1 h2
    have e : (x.map fun b => sOf [b]) = ((x.map fun b => [b]).map sOf) := by rw [List.map_map]; rfl
    rw [e]
    have e2 : Txt.join "" ((x.map fun b => [b]).map sOf) = sOf x := by
      have := join_texts (x.map fun b => [b])
      rw [flat_singles] at this
      exact this
    rw [e2]
    exact k _ t n' ((Same.refl H).new hD) h1 h2
end
end Lp
end
section
set_option maxHeartbeats 4000000
/-! ### tokens of bytes, by places -/
namespace Lp
open VasedBase (Bytes word isLetter isDigit isBlank PTok Toks lex token numberOf decimal)
abbrev STok := VasedBase.Tok
/-- how many stand on from a place that p takes -/
def runLen (p : UInt8 → Bool) (b : Bytes) (at_ : Nat) : Nat := ((b.drop at_).takeWhile p).length
theorem run_here {p : UInt8 → Bool} {b : Bytes} {at_ : Nat} {c : UInt8} (h : b[at_]? = some c) (hp : p c = true) : runLen p b at_ = 1 + runLen p b (at_ + 1) := by
  unfold runLen
  rw [List.drop_eq_getElem?_toList_append, h]
  show ((c :: b.drop (at_ + 1)).takeWhile p).length = _
  rw [List.takeWhile_cons, hp]
  simp [Nat.add_comm]
theorem run_stop {p : UInt8 → Bool} {b : Bytes} {at_ : Nat} {c : UInt8} (h : b[at_]? = some c) (hp : p c = false) : runLen p b at_ = 0 := by
  unfold runLen
  rw [List.drop_eq_getElem?_toList_append, h]
  show ((c :: b.drop (at_ + 1)).takeWhile p).length = _
  rw [List.takeWhile_cons, hp]
  rfl
theorem run_end {p : UInt8 → Bool} {b : Bytes} {at_ : Nat} (h : b.length ≤ at_) : runLen p b at_ = 0 := by
  unfold runLen
  rw [List.drop_eq_nil_of_le h]
  rfl
theorem run_le (p : UInt8 → Bool) (b : Bytes) (at_ : Nat) : runLen p b at_ ≤ b.length - at_ := by
  unfold runLen
  have := (List.takeWhile_sublist p (l := b.drop at_)).length_le
  rw [List.length_drop] at this
  exact this
theorem run_take (p : UInt8 → Bool) (b : Bytes) (at_ : Nat) : (b.drop at_).takeWhile p = (b.drop at_).take (runLen p b at_) := by
  unfold runLen
  have h := List.takeWhile_prefix p (l := b.drop at_)
  exact (List.prefix_iff_eq_take.mp h)
theorem dropWhile_drop (p : UInt8 → Bool) : ∀ l : Bytes, l.dropWhile p = l.drop (l.takeWhile p).length
  | [] => rfl
  | c :: l => by
    rw [List.dropWhile_cons, List.takeWhile_cons]
    cases h : p c
    · rfl
    · simp only [if_true, List.length_cons, List.drop_succ_cons]
      exact dropWhile_drop p l
theorem run_all (p : UInt8 → Bool) (b : Bytes) (at_ : Nat) : ∀ c ∈ (b.drop at_).takeWhile p, p c = true := fun c hc => by
  have := List.all_takeWhile (p := p) (l := b.drop at_)
  exact List.all_eq_true.mp this c hc
theorem drop_at {b : Bytes} {i : Nat} {c : UInt8} (h : b[i]? = some c) : b.drop i = c :: b.drop (i + 1) := by
  rw [List.drop_eq_getElem?_toList_append, h]
  rfl
/-! lex from a place on -/
def lexAt (b : Bytes) (m i : Nat) : Except VasedBase.Fault Toks := lex m i (b.drop i)
theorem lex_stop {b : Bytes} {m i : Nat} (h : b.length ≤ i) : lexAt b (m + 1) i = .ok [⟨i, .last⟩] := by
  unfold lexAt
  rw [List.drop_eq_nil_of_le h]
  rfl
theorem lex_blank {b : Bytes} {m i : Nat} {c : UInt8} (h : b[i]? = some c) (hc : isBlank c = true) : lexAt b (m + 1) i = lexAt b m (i + 1) := by
  unfold lexAt
  rw [drop_at h, VasedBase.lex, if_pos hc]
theorem lex_remark {b : Bytes} {m i : Nat} {c : UInt8} (h : b[i]? = some c) (hb : isBlank c = false) (hc : c = 35) : lexAt b (m + 1) i = lexAt b m (i + runLen (· != 10) b i) := by
  have r1 := run_here (p := (· != 10)) h (by rw [hc]; rfl)
  unfold lexAt
  rw [r1]
  conv => lhs; rw [drop_at h]
  rw [VasedBase.lex, if_neg (by rw [hb]; exact Bool.false_ne_true), if_pos (by rw [hc]; rfl), dropWhile_drop, List.drop_drop]
  show lex m (i + 1 + runLen (· != 10) b (i + 1)) (b.drop (i + 1 + runLen (· != 10) b (i + 1))) = _
  rw [Nat.add_assoc]
theorem lex_token {b : Bytes} {m i : Nat} {c : UInt8} (h : b[i]? = some c) (hb : isBlank c = false) (hc : c ≠ 35) : lexAt b (m + 1) i = (match token (b.drop i) with
    | none => .error ⟨2, i⟩
    | some x => (lexAt b m (i + x.2)).map fun l => ⟨i, x.1⟩ :: l) := by
  unfold lexAt
  conv => lhs; rw [drop_at h]
  rw [VasedBase.lex, if_neg (by rw [hb]; exact Bool.false_ne_true), if_neg (by simpa using hc), ← drop_at h]
  cases token (b.drop i) with
  | none => rfl
  | some x =>
    show (lex m (i + x.2) ((b.drop i).drop x.2)).map _ = _
    rw [List.drop_drop]
theorem token_letters {b : Bytes} {i : Nat} {c : UInt8} (h : b[i]? = some c) (hc : isLetter c = true) : token (b.drop i) = if 8 < runLen isLetter b i then none else some (.name ((b.drop i).take (runLen isLetter b i)), runLen isLetter b i) := by
  rw [← run_take]
  unfold runLen
  rw [drop_at h]
  show (if isLetter c = true then _ else _) = _
  rw [if_pos hc]
  rfl
theorem token_digits {b : Bytes} {i : Nat} {c : UInt8} (h : b[i]? = some c) (hl : isLetter c = false) (hc : isDigit c = true) : token (b.drop i) = (numberOf ((b.drop i).take (runLen isDigit b i))).map fun n => (.num n, runLen isDigit b i) := by
  rw [← run_take]
  unfold runLen
  rw [drop_at h]
  show (if isLetter c = true then _ else if isDigit c = true then _ else _) = _
  rw [if_neg (by rw [hl]; exact Bool.false_ne_true), if_pos hc]
theorem token_other {b : Bytes} {i : Nat} {c : UInt8} (h : b[i]? = some c) (hl : isLetter c = false) (hd : isDigit c = false) : token (b.drop i) = if c = 59 then some (.sign 59, 1) else none := by
  rw [drop_at h]
  show (if isLetter c = true then _ else if isDigit c = true then _ else if VasedBase.SIGNS.contains c = true then _ else _) = _
  rw [if_neg (by rw [hl]; exact Bool.false_ne_true), if_neg (by rw [hd]; exact Bool.false_ne_true)]
  by_cases e : c = 59
  · subst e
    rfl
  · rw [if_neg e, if_neg (by simp [VasedBase.SIGNS, e])]
theorem blank_iff (c : UInt8) : isBlank c = true ↔ c.toNat = 32 ∨ c.toNat = 9 ∨ c.toNat = 10 := by
  have t : ∀ n : Fin 256, (isBlank (UInt8.ofNat n.val) = true ↔ n.val = 32 ∨ n.val = 9 ∨ n.val = 10) := by decide +kernel
  have := t ⟨c.toNat, c.toNat_lt⟩
  simpa using this
theorem byte_eq {c : UInt8} {n : Nat} (hn : n < 256) : c = UInt8.ofNat n ↔ c.toNat = n := by
  constructor
  · rintro rfl
    simp [Nat.mod_eq_of_lt hn]
  · intro h
    rw [← h]
    simp
/-! a number's digits -/
theorem decimal_le : ∀ (l : Bytes) (n : Nat), (∀ c ∈ l, isDigit c = true) → l.foldl (fun n b => 10 * n + (b.toNat - 48)) n < (n + 1) * 10 ^ l.length
  | [], n, _ => by simp
  | c :: l, n, h => by
    have hc : 48 ≤ c.toNat ∧ c.toNat ≤ 57 := of_decide_eq_true (h c (List.mem_cons_self ..))
    have ih := decimal_le l (10 * n + (c.toNat - 48)) fun x hx => h x (List.mem_cons_of_mem _ hx)
    rw [List.foldl_cons, List.length_cons, Nat.pow_succ]
    refine Nat.lt_of_lt_of_le ih ?_
    have : 10 * n + (c.toNat - 48) + 1 ≤ (n + 1) * 10 := by omega
    calc (10 * n + (c.toNat - 48) + 1) * 10 ^ l.length ≤ ((n + 1) * 10) * 10 ^ l.length := Nat.mul_le_mul_right _ this
      _ = (n + 1) * (10 ^ l.length * 10) := by rw [Nat.mul_assoc, Nat.mul_comm 10]
theorem numberOf_eq {l : Bytes} (h0 : l ≠ []) : numberOf l = if 10 < l.length ∨ (1 < l.length ∧ l.head? = some 48) ∨ 1000000000 < decimal l then none else some (decimal l) := by
  unfold VasedBase.numberOf
  rw [show VasedBase.NUMBER = 1000000000 from rfl]
  by_cases h : 10 < l.length ∨ (1 < l.length ∧ l.head? = some 48) ∨ 1000000000 < decimal l
  · rw [if_pos h, if_pos (.inr h)]
  · rw [if_neg h, if_neg fun z => z.elim h0 h]
theorem token_len {b : Bytes} {i : Nat} {c : UInt8} {x : STok × Nat} (h : b[i]? = some c) (hx : token (b.drop i) = some x) : 1 ≤ x.2 ∧ i + x.2 ≤ b.length ∧ x.1 ≠ .last := by
  have hi : i < b.length := (List.getElem?_eq_some_iff.mp h).1
  cases hl : isLetter c with
  | true =>
    rw [token_letters h hl] at hx
    have r1 := run_here (p := isLetter) h hl
    have r2 := run_le isLetter b i
    split at hx
    · cases hx
    · cases hx
      exact ⟨by show 1 ≤ runLen isLetter b i; omega, by show i + runLen isLetter b i ≤ b.length; omega, fun z => nomatch z⟩
  | false =>
    cases hd : isDigit c with
    | true =>
      rw [token_digits h hl hd] at hx
      have r1 := run_here (p := isDigit) h hd
      have r2 := run_le isDigit b i
      obtain ⟨n, _, rfl⟩ := Option.map_eq_some_iff.mp hx
      exact ⟨by show 1 ≤ runLen isDigit b i; omega, by show i + runLen isDigit b i ≤ b.length; omega, fun z => nomatch z⟩
    | false =>
      rw [token_other h hl hd] at hx
      split at hx
      · cases hx
        exact ⟨Nat.le_refl _, hi, fun z => nomatch z⟩
      · cases hx
end Lp
end
section
set_option maxHeartbeats 4000000
/-! ### ends of letters, digits, remarks; numbers -/
namespace Lp
open PySem PySem.Spec PyProof.Rows L2
open PySem.W (Frag)
open VasedBase (Bytes word showNat isLetter isDigit decimal)
def spEnd (p : UInt8 → Bool) : Sp := fun vs H Q _ => ∃ (a : Addr) (b : Bytes) (i : Nat), vs = [.ref a, .int (i : Nat)] ∧ H a = some (.lst (vB b)) ∧ b.length ≤ 100000 ∧ i ≤ b.length ∧ Q (.int ((i + runLen p b i : Nat) : Int)) H
section
variable {P : Program} {w : World} {K : Frag} {mg : Str → Option Value} {base : Heap}
abbrev s_letters_end : Stmt := topS 40
theorem sc_letters_end : FnScope ["data", "at"] ["data", "at"] (defScope s_letters_end) := ⟨rfl, rfl, rfl, by decide +kernel, rfl, by decide +kernel, by decide +kernel⟩
theorem ok_letters_end (A : FnAt K mg "letters_end" s_letters_end ["data", "at"]) (T : Txt K mg) (D_is_letter : Dn P w K mg base CX0 1 "is_letter" ["byte"] spIsLetter) : Dn P w K mg base CX0 2 "letters_end" ["data", "at"] (spEnd isLetter) := A.dn fun f fd F => by
  refine ok0 F sc_letters_end (fun vs H Q E h => ?_) (fun cdv A outer s H vs Q E hr h => ?_)
  · obtain ⟨a, b, i, rfl, _⟩ := h
    rfl
  obtain ⟨a, b, i, rfl, ha, hz, hi, k⟩ := h
  refine ⟨_, (pss_cons (ps_while PassesOwn.never (PW.pt (pw_and (pt_cmpR op_lt (pv 1) (pe_callB call_len (by rfl) T.f_len PySem.boot_len (pa_cons (pv 0) pa_nil)) (nomark _)) (pw_and1 (pt_val (pe_f D_is_letter (hr.mono (by decide)) pass0 (pa_cons (pe_ix ix_list (pv 0) (pv 1) (fun _ _ => rfl)) pa_nil))))))
      (pss_one (ps_aug (i := 1) sc_letters_end.nd rfl (.inl rfl) pe_int ip_add)))
      (pss_one (ps_ret (pv 1)))), ?_⟩
  refine ⟨fun m σ H' => ∃ j : Nat, m = b.length - j ∧ j ≤ b.length ∧ H' = H ∧ σ = [some (.ref a), some (.int (j : Nat))] ∧ j + runLen isLetter b j = i + runLen isLetter b i, ⟨_, i, rfl, hi, rfl, rfl, rfl⟩, ?_⟩
  rintro m σ H' ⟨j, rfl, hj, rfl, rfl, hr⟩
  refine ⟨_, rfl, _, rfl, _, b.length, rfl, .inl ⟨_, .of ha, by simp⟩, _, _, rfl, rfl, _, rfl, ?_⟩
  refine if_of (fun c1 => ?_) (fun c1 => ?_)
  · have c1 := of_decide_eq_true c1
    have hj' : j < b.length := by omega
    have hc : b[j]? = some b[j] := List.getElem?_eq_getElem hj'
    generalize b[j] = c at hc
    refine ⟨_, rfl, _, rfl, _, _, _, _, rfl, rfl, .of ha, atI_nat (by rw [List.getElem?_map, hc]; rfl), c, rfl, _, rfl, ?_⟩
    refine if_of (fun c2 => ⟨_, fun _ _ z => z, ?_⟩) (fun c2 => ?_)
    · have e := run_here (p := isLetter) hc c2
      refine ⟨_, rfl, _, _, rfl, rfl, _, ?_, j + 1, rfl, hj', rfl, rfl, by omega⟩
      omega
    · rw [run_stop hc c2, Nat.add_zero] at hr
      subst hr
      exact ⟨_, rfl, k⟩
  · have c1 := of_decide_eq_false c1
    rw [run_end (by omega), Nat.add_zero] at hr
    subst hr
    exact ⟨_, rfl, k⟩
abbrev s_digits_end : Stmt := topS 41
theorem sc_digits_end : FnScope ["data", "at"] ["data", "at"] (defScope s_digits_end) := ⟨rfl, rfl, rfl, by decide +kernel, rfl, by decide +kernel, by decide +kernel⟩
theorem ok_digits_end (A : FnAt K mg "digits_end" s_digits_end ["data", "at"]) (T : Txt K mg) (D_is_digit : Dn P w K mg base CX0 1 "is_digit" ["byte"] spIsDigit) : Dn P w K mg base CX0 2 "digits_end" ["data", "at"] (spEnd isDigit) := A.dn fun f fd F => by
  refine ok0 F sc_digits_end (fun vs H Q E h => ?_) (fun cdv A outer s H vs Q E hr h => ?_)
  · obtain ⟨a, b, i, rfl, _⟩ := h
    rfl
  obtain ⟨a, b, i, rfl, ha, hz, hi, k⟩ := h
  refine ⟨_, (pss_cons (ps_while PassesOwn.never (PW.pt (pw_and (pt_cmpR op_lt (pv 1) (pe_callB call_len (by rfl) T.f_len PySem.boot_len (pa_cons (pv 0) pa_nil)) (nomark _)) (pw_and1 (pt_val (pe_f D_is_digit (hr.mono (by decide)) pass0 (pa_cons (pe_ix ix_list (pv 0) (pv 1) (fun _ _ => rfl)) pa_nil))))))
      (pss_one (ps_aug (i := 1) sc_digits_end.nd rfl (.inl rfl) pe_int ip_add)))
      (pss_one (ps_ret (pv 1)))), ?_⟩
  refine ⟨fun m σ H' => ∃ j : Nat, m = b.length - j ∧ j ≤ b.length ∧ H' = H ∧ σ = [some (.ref a), some (.int (j : Nat))] ∧ j + runLen isDigit b j = i + runLen isDigit b i, ⟨_, i, rfl, hi, rfl, rfl, rfl⟩, ?_⟩
  rintro m σ H' ⟨j, rfl, hj, rfl, rfl, hr⟩
  refine ⟨_, rfl, _, rfl, _, b.length, rfl, .inl ⟨_, .of ha, by simp⟩, _, _, rfl, rfl, _, rfl, ?_⟩
  refine if_of (fun c1 => ?_) (fun c1 => ?_)
  · have c1 := of_decide_eq_true c1
    have hj' : j < b.length := by omega
    have hc : b[j]? = some b[j] := List.getElem?_eq_getElem hj'
    generalize b[j] = c at hc
    refine ⟨_, rfl, _, rfl, _, _, _, _, rfl, rfl, .of ha, atI_nat (by rw [List.getElem?_map, hc]; rfl), c, rfl, _, rfl, ?_⟩
    refine if_of (fun c2 => ⟨_, fun _ _ z => z, ?_⟩) (fun c2 => ?_)
    · have e := run_here (p := isDigit) hc c2
      refine ⟨_, rfl, _, _, rfl, rfl, _, ?_, j + 1, rfl, hj', rfl, rfl, by omega⟩
      omega
    · rw [run_stop hc c2, Nat.add_zero] at hr
      subst hr
      exact ⟨_, rfl, k⟩
  · have c1 := of_decide_eq_false c1
    rw [run_end (by omega), Nat.add_zero] at hr
    subst hr
    exact ⟨_, rfl, k⟩
abbrev s_remark_end : Stmt := topS 42
theorem sc_remark_end : FnScope ["data", "at"] ["data", "at"] (defScope s_remark_end) := ⟨rfl, rfl, rfl, by decide +kernel, rfl, by decide +kernel, by decide +kernel⟩
theorem ok_remark_end (A : FnAt K mg "remark_end" s_remark_end ["data", "at"]) (T : Txt K mg) : Dn P w K mg base CX0 1 "remark_end" ["data", "at"] (spEnd (fun x : UInt8 => x != 10)) := A.dn fun f fd F => by
  refine ok0 F sc_remark_end (fun vs H Q E h => ?_) (fun cdv A outer s H vs Q E hr h => ?_)
  · obtain ⟨a, b, i, rfl, _⟩ := h
    rfl
  obtain ⟨a, b, i, rfl, ha, hz, hi, k⟩ := h
  refine ⟨_, (pss_cons (ps_while PassesOwn.never (PW.pt (pw_and (pt_cmpR op_lt (pv 1) (pe_callB call_len (by rfl) T.f_len PySem.boot_len (pa_cons (pv 0) pa_nil)) (nomark _)) (pw_and1 (pt_cmpR op_ne (pe_ix ix_list (pv 0) (pv 1) (fun _ _ => rfl)) (pe_gint T.g_LINE_END) (nomark _)))))
      (pss_one (ps_aug (i := 1) sc_remark_end.nd rfl (.inl rfl) pe_int ip_add)))
      (pss_one (ps_ret (pv 1)))), ?_⟩
  refine ⟨fun m σ H' => ∃ j : Nat, m = b.length - j ∧ j ≤ b.length ∧ H' = H ∧ σ = [some (.ref a), some (.int (j : Nat))] ∧ j + runLen (fun x : UInt8 => x != 10) b j = i + runLen (fun x : UInt8 => x != 10) b i, ⟨_, i, rfl, hi, rfl, rfl, rfl⟩, ?_⟩
  rintro m σ H' ⟨j, rfl, hj, rfl, rfl, hr⟩
  refine ⟨_, rfl, _, rfl, _, b.length, rfl, .inl ⟨_, .of ha, by simp⟩, _, _, rfl, rfl, _, rfl, ?_⟩
  refine if_of (fun c1 => ?_) (fun c1 => ?_)
  · have c1 := of_decide_eq_true c1
    have hj' : j < b.length := by omega
    have hc : b[j]? = some b[j] := List.getElem?_eq_getElem hj'
    generalize b[j] = c at hc
    refine ⟨_, rfl, _, rfl, _, _, _, _, rfl, rfl, .of ha, atI_nat (by rw [List.getElem?_map, hc]; rfl), rfl, _, rfl, ?_⟩
    have hp : ((fun x : UInt8 => x != 10)) c = !decide ((c.toNat : Int) = 10) := by
      have t : ∀ n : Fin 256, ((UInt8.ofNat n.val) != 10) = !decide ((n.val : Int) = 10) := by decide +kernel
      have := t ⟨c.toNat, c.toNat_lt⟩
      simpa using this
    have e0 : (!decide ((fun c : UInt8 => V.int (c.toNat : Int)) c = V.int 10)) = (c != 10) := by
      refine Eq.trans ?_ hp.symm
      congr 1
      rw [Bool.eq_iff_iff, decide_eq_true_iff, decide_eq_true_iff]
      exact ⟨fun h => V.int.inj h, fun h => congrArg V.int h⟩
    rw [e0]
    refine if_of (fun c2 => ⟨_, fun _ _ z => z, ?_⟩) (fun c2 => ?_)
    · have e := run_here (p := (fun x : UInt8 => x != 10)) hc c2
      refine ⟨_, rfl, _, _, rfl, rfl, _, ?_, j + 1, rfl, hj', rfl, rfl, by omega⟩
      omega
    · rw [run_stop hc c2, Nat.add_zero] at hr
      subst hr
      exact ⟨_, rfl, k⟩
  · have c1 := of_decide_eq_false c1
    rw [run_end (by omega), Nat.add_zero] at hr
    subst hr
    exact ⟨_, rfl, k⟩
abbrev s_number_of : Stmt := topS 43
theorem sc_number_of : FnScope ["digits", "found", "digit"] ["digits"] (defScope s_number_of) := ⟨rfl, rfl, rfl, by decide +kernel, rfl, by decide +kernel, by decide +kernel⟩
def spNumberOf : Sp := fun vs H Q _ => ∃ (a : Addr) (b : Bytes), vs = [.ref a] ∧ H a = some (.lst (vB b)) ∧ b.length ≤ 100 ∧ (∀ c ∈ b, isDigit c = true) ∧ Q (.int (decimal b : Nat)) H
theorem ok_number_of (A : FnAt K mg "number_of" s_number_of ["digits"]) (T : Txt K mg) : Dn P w K mg base CX0 1 "number_of" ["digits"] spNumberOf := A.dn fun f fd F => by
  refine ok0 F sc_number_of (fun vs H Q E h => ?_) (fun cdv A outer s H vs Q E hr h => ?_)
  · obtain ⟨a, b, rfl, _⟩ := h
    rfl
  obtain ⟨a, b, rfl, ha, hz, hd, k⟩ := h
  refine ⟨_, (pss_cons (ps_set (i := 1) sc_number_of.nd rfl (Or.inl rfl) pe_int)
      (pss_cons (ps_for PassesOwn.never rfl (pi_list (pv 0)) (pg_name (i := 2) sc_number_of.nd rfl (Or.inl rfl))
      (pss_one (ps_set (i := 1) sc_number_of.nd rfl (Or.inl rfl) (pe_op op_sub (pe_op op_add (pe_op op_mul pe_int (pv 1)) (pv 2)) (pe_gint T.g_FIRST_DIGIT)))))
      (pss_one (ps_ret (pv 1))))), ?_⟩
  refine ⟨_, rfl, a, rfl, ⟨_, .of ha⟩, for_map (fun c : UInt8 => V.int (c.toNat : Int)) (fun pre σ H' => ∃ x2, H' = H ∧ σ = [some (.ref a), some (.int (decimal pre : Nat)), x2]) ⟨_, rfl, rfl⟩ (fun pre σ H' ⟨_, e, _⟩ => by rw [e]; exact .of ha) ?_ ?_⟩
  · rintro pre c post σ H' e ⟨x2, rfl, rfl⟩
    have hc : 48 ≤ c.toNat ∧ c.toNat ≤ 57 := of_decide_eq_true (hd c (by rw [e]; simp))
    have hp := decimal_le pre 0 fun x hx => hd x (by rw [e]; exact List.mem_append_left _ hx)
    refine ⟨_, rfl, _, _, rfl, rfl, .inl ⟨by decide, by decide⟩, _, rfl, _, _, rfl, rfl, _, _, rfl, rfl, ?_⟩
    have e2 : decimal (pre ++ [c]) = 10 * decimal pre + (c.toNat - 48) := by
      unfold VasedBase.decimal
      rw [List.foldl_append]
      rfl
    refine ⟨some (V.int (c.toNat : Int)), rfl, ?_⟩
    rw [e2]
    show [some (V.ref a), some (V.int (10 * ((decimal pre : Nat) : Int) + (c.toNat : Int) - 48)), some (V.int (c.toNat : Int))] = _
    have : (10 * ((decimal pre : Nat) : Int) + (c.toNat : Int) - 48) = ((10 * decimal pre + (c.toNat - 48) : Nat) : Int) := by omega
    rw [this]
  · rintro σ H' ⟨x2, rfl, rfl⟩
    exact ⟨_, rfl, k⟩
end
end Lp
end
section
set_option maxHeartbeats 4000000
/-! ### one token -/
namespace Lp
open PySem PySem.Spec PyProof.Rows L2
open PySem.W (Frag)
open VasedBase (Bytes word showNat isLetter isDigit decimal numberOf PTok Toks token)
/-- a token's kind, text, number -/
def kdOf : STok → Int
  | .name _ => 0
  | .num _ => 1
  | .sign _ => 2
  | .last => 3
def txOf : STok → Bytes
  | .name b => b
  | _ => []
def nmOf : STok → Int
  | .num n => n
  | _ => 0
def isNm : STok → Bool
  | .name _ => true
  | _ => false
/-- a token's instance, its text's token known -/
def TkAt (K : Frag) (H : Hp) (a : Addr) (p : PTok) (t : Nat) : Prop := ∃ dx uk ut un up, XIns H a (cA K "Token") dx (tokMap uk ut un up) ∧ RelV (.int (kdOf p.tok)) uk ∧ ut = .str (sOf (txOf p.tok)) t ∧ RelV (.int (nmOf p.tok)) un ∧ RelV (.int (p.place : Nat)) up
theorem TkAt.mono {K : Frag} {H H' : Hp} {a : Addr} {p : PTok} {t : Nat} (s : Same H H') : TkAt K H a p t → TkAt K H' a p t := fun ⟨dx, uk, ut, un, up, h, r⟩ => ⟨dx, uk, ut, un, up, h.mono s, r⟩
theorem TkAt.put {K : Frag} {H : Hp} {a F : Addr} {p : PTok} {t : Nat} {xs : List V} {o : HO} (hF : H F = some (.lst xs)) : TkAt K H a p t → TkAt K (L2.upd H F o) a p t := fun ⟨dx, uk, ut, un, up, h, r⟩ => by
  refine ⟨dx, uk, ut, un, up, ⟨?_, ?_, h.ne⟩, r⟩
  · rw [upd_ne (fun z => by have q := h.hi; rw [z, hF] at q; cases q)]
    exact h.hi
  · rw [upd_ne (fun z => by have q := h.hd; rw [z, hF] at q; cases q)]
    exact h.hd
/-- the token just made -/
theorem TkAt.made {K : Frag} {H : Hp} {x dx : Addr} {p : PTok} {t : Nat} {uk ut un up : Value} (hne : dx ≠ x) (r1 : RelV (.int (kdOf p.tok)) uk) (r2 : ut = .str (sOf (txOf p.tok)) t) (r3 : RelV (.int (nmOf p.tok)) un) (r4 : RelV (.int (p.place : Nat)) up) :
    TkAt K (upd (upd H dx (nsX dx (tokMap uk ut un up))) x (inX x (cA K "Token") dx)) x p t :=
  ⟨dx, uk, ut, un, up, ⟨upd_same, by rw [upd_ne hne, upd_same], hne⟩, r1, r2, r3, r4⟩
theorem same_made {H : Hp} {x dx : Addr} {o u : HO} (hx : H x = none) (hdx : H dx = none) (hne : dx ≠ x) : Same H (upd (upd H dx o) x u) := fun b v e => by
  rw [upd_ne (fun z => by rw [z, hx] at e; cases e), upd_ne (fun z => by rw [z, hdx] at e; cases e)]
  exact e
theorem FauE.mono {K : Frag} {E : XK} {H H' : Hp} {f : VasedBase.Fault} (s : Same H H') (h : FauE K E H f) : FauE K E H' f := fun d H2 s2 hd => h d H2 (s.trans s2) hd
theorem vB_cut (b : Bytes) (i n : Nat) (h : i + n ≤ b.length) : cutV (vB b) (some (i : Int)) (some ((i + n : Nat) : Int)) = vB ((b.drop i).take n) := by
  rw [cutV_to _ _ _ (Nat.le_add_right _ _) (by rw [List.length_map]; exact h), ← List.map_drop, ← List.map_take, Nat.add_sub_cancel_left]
theorem vB_get {b : Bytes} {i : Nat} {c : UInt8} (h : b[i]? = some c) : (vB b)[i]? = some (.int (c.toNat : Int)) := by rw [List.getElem?_map, h]; rfl
section
variable {P : Program} {w : World} {K : Frag} {mg : Str → Option Value} {base : Heap}
abbrev s_number_at : Stmt := topS 45
theorem sc_number_at : FnScope ["data", "at", "end", "number"] ["data", "at", "end"] (defScope s_number_at) := ⟨rfl, rfl, rfl, by decide +kernel, rfl, by decide +kernel, by decide +kernel⟩
def spNumAt (K : Frag) : Sp := fun vs H Q E => ∃ (a : Addr) (b : Bytes) (i : Nat), vs = [.ref a, .int (i : Nat), .int ((i + runLen isDigit b i : Nat) : Int)] ∧ H a = some (.lst (vB b)) ∧ b.length ≤ 100000 ∧ (∃ c, b[i]? = some c ∧ isDigit c = true) ∧
  (∀ k, numberOf ((b.drop i).take (runLen isDigit b i)) = some k → ∀ r t H', Same H H' → TkAt K H' r ⟨i, .num k⟩ t → Q (.ref r) H') ∧ (numberOf ((b.drop i).take (runLen isDigit b i)) = none → FauE K E H ⟨2, i⟩)
theorem ok_number_at (A : FnAt K mg "number_at" s_number_at ["data", "at", "end"]) (T : Txt K mg) (D_Fault : De P w K mg base 1 "Fault" (cA K "Fault") ["self", "code", "place"] (spEx (cA K "Fault") 2 xFault)) (D_Token : DTok P w K mg base)
    (D_number_of : Dn P w K mg base CX0 1 "number_of" ["digits"] spNumberOf) : Dn P w K mg base (L2.CX P w) 3 "number_at" ["data", "at", "end"] (spNumAt K) := A.dn fun f fd F => by
  refine okX F sc_number_at (fun vs H Q E h => ?_) (fun cdv A outer s H vs Q E hr h => ?_)
  · obtain ⟨a, b, i, rfl, _⟩ := h
    rfl
  obtain ⟨a, b, i, rfl, ha, hz, ⟨c, hc, hcd⟩, k1, k2⟩ := h
  refine ⟨_, (pss_cons (ps_if (PW.pt (pw_or (pt_cmpR op_gt (pe_op op_sub (pv 2) (pv 1)) (pe_gint T.g_MOST_DIGITS) (nomark _)) (pw_or1 (PW.pt (pw_and (pt_cmpR op_gt (pe_op op_sub (pv 2) (pv 1)) pe_int (nomark _)) (pw_and1 (pt_cmpR op_eq (pe_ix ix_list (pv 0) (pv 1) (fun _ _ => rfl)) (pe_gint T.g_FIRST_DIGIT) (nomark _))))))))
      (pss_one (ps_raise rfl (takes_of rfl rfl rfl rfl) (pmk_D T.ox_Fault D_Fault (hr.mono (by decide)) (by rfl) (pa_cons (pe_gint T.g_NO_TOKEN) (pa_cons (pv 1) pa_nil)))))
      pss_nil)
      (pss_cons (ps_set (i := 3) sc_number_at.nd rfl (Or.inl rfl) (pe_f D_number_of (hr.mono (by decide)) pass0 (pa_cons (pe_slice sl_list (pv 0) (po_some (pv 1)) (po_some (pv 2))) pa_nil)))
      (pss_cons (ps_if (pt_cmpR op_gt (pv 3) (pe_gint T.g_MOST_NUMBER) (nomark _))
      (pss_one (ps_raise rfl (takes_of rfl rfl rfl rfl) (pmk_D T.ox_Fault D_Fault (hr.mono (by decide)) (by rfl) (pa_cons (pe_gint T.g_NO_TOKEN) (pa_cons (pv 1) pa_nil)))))
      pss_nil)
      (pss_one (ps_ret (pe_tok D_Token (hr.mono (by decide)) (pa_cons (pe_gint T.g_NUMBER) (pa_cons pe_str (pa_cons (pv 3) (pa_cons (pv 1) pa_nil)))))))))), ?_⟩
  have rl := run_le isDigit b i
  have hi : i < b.length := (List.getElem?_eq_some_iff.mp hc).1
  have r1 := run_here (p := isDigit) hc hcd
  have hw : ((b.drop i).take (runLen isDigit b i)).length = runLen isDigit b i := by rw [List.length_take, List.length_drop]; omega
  have hne : (b.drop i).take (runLen isDigit b i) ≠ [] := fun z => by rw [z] at hw; simp at hw; omega
  have hh : ((b.drop i).take (runLen isDigit b i)).head? = some c := by rw [drop_at hc, r1, Nat.add_comm]; rfl
  rw [numberOf_eq hne, hw, hh] at k1 k2
  have bad : 10 < runLen isDigit b i ∨ (1 < runLen isDigit b i ∧ some c = some 48) ∨ 1000000000 < decimal ((b.drop i).take (runLen isDigit b i)) → ∀ d H', Same H H' → H' d = some (.xd [("place", .int (i : Nat)), ("code", .int 2)]) → E (.ref (cA K "Fault")) (some d) H' := fun h d H' s hd => k2 (if_pos h) d H' s hd
  have h48 : (c = 48) ↔ c.toNat = 48 := byte_eq (n := 48) (by decide)
  have rest : ¬ (10 < runLen isDigit b i ∨ (1 < runLen isDigit b i ∧ some c = some 48)) → tSeq
    (tAsg (tF spNumberOf E0 (tCons (tSl (rSlL K) (tVar 0) (tPart (tVar 1)) (tPart (tVar 2))) tNil)) (gName 3))
    (tSeq (tIfS (tTest (tOp (rI0 fun i j => V.bl (decide (j < i))) (tVar 3) (tC (V.int 1000000000)))) (fun x σ H =>
        tMkO (cA K (Str.ofString "Fault")) (spEx (cA K (Str.ofString "Fault")) 2 xFault) []
          (tCons (tC (V.int 2)) (tCons (tVar 1) tNil)) σ H fun cls d H' => E cls d H') tNext)
      (tRet (tTok K (tCons (tC (V.int 1)) (tCons (tC (V.str "")) (tCons (tVar 3) (tCons (tVar 1) tNil)))))))
    { nx := fun x H' => Q V.non H', rt := Q } [some (.ref a), some (.int (i : Nat)), some (.int ((i + runLen isDigit b i : Nat) : Int)), none] H := fun hb => by
    refine ⟨_, rfl, _, rfl, _, rfl, _, rfl, _, rfl, a, _, rfl, .of ha, fun p hp => ?_⟩
    rw [vB_cut b i _ (by omega)]
    have s1 := (Same.refl H).new (o := .lst (vB ((b.drop i).take (runLen isDigit b i)))) hp
    have ok10 : runLen isDigit b i ≤ 10 := Nat.le_of_not_lt fun z => hb (.inl z)
    refine ⟨p, _, rfl, upd_same, by omega, fun x hx => run_all isDigit b i x (by rw [run_take]; exact hx), ?_⟩
    refine ⟨_, rfl, _, _, rfl, rfl, _, rfl, ?_⟩
    refine if_of (fun c1 => ?_) (fun c1 => ?_)
    · have c1 : 1000000000 < decimal ((b.drop i).take (runLen isDigit b i)) := by have := of_decide_eq_true c1; omega
      exact ⟨_, rfl, mkF rfl (by decide) fun d H' s hd => bad (.inr (.inr c1)) d H' (s1.trans s) hd⟩
    · have c1 : ¬ 1000000000 < decimal ((b.drop i).take (runLen isDigit b i)) := by have := of_decide_eq_false c1; omega
      refine ⟨_, rfl, _, rfl, _, _, _, _, rfl, fun uk ut un up r1 r2 r3 r4 x dx hx hdx hne => ?_⟩
      obtain ⟨t, rfl⟩ := r2
      refine k1 _ (if_neg fun h => h.elim (fun h => hb (.inl h)) fun h => h.elim (fun h => hb (.inr h)) c1) x t _ (s1.trans (same_made hx hdx hne)) (TkAt.made hne r1 ?_ r3 r4)
      rfl
  refine ⟨_, rfl, _, rfl, _, _, rfl, rfl, _, _, rfl, rfl, _, rfl, ?_⟩
  refine if_of (fun c1 => ?_) (fun c1 => ?_)
  · have c1 : 10 < runLen isDigit b i := by have := of_decide_eq_true c1; omega
    exact ⟨_, rfl, mkF rfl (by decide) fun d H' s hd => bad (.inl c1) d H' s hd⟩
  · have c1 : ¬ 10 < runLen isDigit b i := by have := of_decide_eq_false c1; omega
    refine ⟨_, rfl, _, rfl, _, _, rfl, rfl, _, _, rfl, rfl, _, rfl, ?_⟩
    refine if_of (fun c2 => ?_) (fun c2 => ?_)
    · have c2 : 1 < runLen isDigit b i := by have := of_decide_eq_true c2; omega
      refine ⟨_, rfl, _, rfl, _, _, _, _, rfl, rfl, .of ha, atI_nat (vB_get hc), rfl, _, rfl, ?_⟩
      refine if_of (fun c3 => ?_) (fun c3 => ?_)
      · have c3 : c = 48 := by have := V.int.inj (of_decide_eq_true c3); rw [h48]; omega
        exact ⟨_, rfl, mkF rfl (by decide) fun d H' s hd => bad (.inr (.inl ⟨c2, congrArg some c3⟩)) d H' s hd⟩
      · have c3 : c ≠ 48 := fun z => of_decide_eq_false c3 (by rw [show (c.toNat : Int) = 48 from by have := h48.mp z; omega])
        exact rest fun h => h.elim c1 fun h => c3 (Option.some.inj h.2)
    · have c2 : ¬ 1 < runLen isDigit b i := by have := of_decide_eq_false c2; omega
      exact rest fun h => h.elim c1 fun h => c2 h.1
end
end Lp
end
section
set_option maxHeartbeats 4000000
/-! ### one token, its text's token known -/
namespace Lp
open PySem PySem.Spec PyProof.Rows L2
open PySem.W (Frag)
open VasedBase (Bytes word showNat isLetter isDigit decimal numberOf PTok Toks token)
section
variable {P : Program} {w : World} {K : Frag} {mg : Str → Option Value} {base : Heap}
abbrev s_word_at : Stmt := topS 44
theorem sc_word_at : FnScope ["data", "at", "end"] ["data", "at", "end"] (defScope s_word_at) := ⟨rfl, rfl, rfl, by decide +kernel, rfl, by decide +kernel, by decide +kernel⟩
def spWordAt (K : Frag) : Spc := fun vs H n Q E => ∃ (a : Addr) (b : Bytes) (i : Nat), vs = [.ref a, .int (i : Nat), .int ((i + runLen isLetter b i : Nat) : Int)] ∧ H a = some (.lst (vB b)) ∧ b.length ≤ 100000 ∧ i < b.length ∧
  (runLen isLetter b i ≤ 8 → ∀ r t H' n', Same H H' → TkAt K H' r ⟨i, .name ((b.drop i).take (runLen isLetter b i))⟩ t → n ≤ t → t < n' → Q (.ref r) (.ref r) H' n') ∧ (8 < runLen isLetter b i → FauE K E H ⟨2, i⟩)
theorem ok_word_at (A : FnAt K mg "word_at" s_word_at ["data", "at", "end"]) (T : Txt K mg) (D_Fault : De P w K mg base 1 "Fault" (cA K "Fault") ["self", "code", "place"] (spEx (cA K "Fault") 2 xFault)) (D_Token : DTok P w K mg base)
    (D_letters_of : DnC P w K mg base CX0 1 "letters_of" ["data"] spLettersC) : DnC P w K mg base (L2.CX P w) 3 "word_at" ["data", "at", "end"] (spWordAt K) := A.dnC fun f fd F => by
  refine okC F sc_word_at (fun vs H n Q E h => ?_) (fun cdv A outer s H vs n Q E hr h => ?_)
  · obtain ⟨a, b, i, rfl, _⟩ := h
    rfl
  obtain ⟨a, b, i, rfl, ha, hz, hi, k1, k2⟩ := h
  refine ⟨_, (pssc_std (ps_if (pt_cmpR op_gt (pe_op op_sub (pv 2) (pv 1)) (pe_gint T.g_MOST_LETTERS_tokens) (nomark _))
      (pss_one (ps_raise rfl (takes_of rfl rfl rfl rfl) (pmk_D T.ox_Fault D_Fault (hr.mono (by decide)) (by rfl) (pa_cons (pe_gint T.g_NO_TOKEN) (pa_cons (pv 1) pa_nil)))))
      pss_nil)
      (pssc_ret (pec_tok D_Token (hr.mono (by decide)) (pac_cons (PEc.of (pe_gint T.g_WORD)) (pac_cons (pec_f D_letters_of (hr.mono (by decide)) pass0 (PAc.of (pa_cons (pe_slice sl_list (pv 0) (po_some (pv 1)) (po_some (pv 2))) pa_nil))) (PAc.of (pa_cons pe_int (pa_cons (pv 1) pa_nil)))))))), ?_⟩
  have rl := run_le isLetter b i
  refine ⟨_, rfl, _, rfl, _, _, rfl, rfl, _, _, rfl, rfl, _, rfl, ?_⟩
  refine if_of (fun c1 => ?_) (fun c1 => ?_)
  · have c1 : 8 < runLen isLetter b i := by have := of_decide_eq_true c1; omega
    exact ⟨_, rfl, mkF rfl (by decide) fun d H' s hd => k2 c1 d H' s hd⟩
  · have c1 : ¬ 8 < runLen isLetter b i := by have := of_decide_eq_false c1; omega
    intro uk r1
    refine ⟨_, rfl, _, rfl, _, rfl, _, rfl, _, rfl, a, _, rfl, .of ha, fun p hp => ?_⟩
    rw [vB_cut b i _ (by omega)]
    intro us rs
    refine ⟨p, _, rfl, upd_same, fun x hx => run_all isLetter b i x (by rw [run_take]; exact hx), by rw [List.length_take, List.length_drop]; omega, fun H' t n' s h1 h2 => ?_⟩
    refine ⟨_, rfl, fun us2 rs2 => ⟨_, _, _, _, rfl, fun uk2 ut un up e q1 q2 q3 q4 x dx hx hdx hne => ?_⟩⟩
    have s1 := ((Same.refl H).new (o := .lst (vB ((b.drop i).take (runLen isLetter b i)))) hp).trans s
    cases e
    exact k1 (by omega) x t _ n' (s1.trans (same_made hx hdx hne)) (TkAt.made hne q1 rfl q3 q4) h1 h2
abbrev s_token_at : Stmt := topS 46
theorem sc_token_at : FnScope ["data", "at", "end"] ["data", "at"] (defScope s_token_at) := ⟨rfl, rfl, rfl, by decide +kernel, rfl, by decide +kernel, by decide +kernel⟩
def spTokenAt (K : Frag) : Spc := fun vs H n Q E => ∃ (a : Addr) (b : Bytes) (i : Nat), vs = [.ref a, .int (i : Nat)] ∧ H a = some (.lst (vB b)) ∧ b.length ≤ 100000 ∧ i < b.length ∧
  (∀ x, token (b.drop i) = some x → ∀ y r t H' n', Same H H' → H y = none → H' y = some (.tup [.ref r, .int ((i + x.2 : Nat) : Int)]) → TkAt K H' r ⟨i, x.1⟩ t → (isNm x.1 = true → n ≤ t ∧ t < n') → n ≤ n' → Q (.ref y) (.ref y) H' n') ∧
  (token (b.drop i) = none → FauE K E H ⟨2, i⟩)
theorem ok_token_at (A : FnAt K mg "token_at" s_token_at ["data", "at"]) (T : Txt K mg) (D_Fault : De P w K mg base 1 "Fault" (cA K "Fault") ["self", "code", "place"] (spEx (cA K "Fault") 2 xFault)) (D_Token : DTok P w K mg base)
    (D_is_letter : Dn P w K mg base CX0 1 "is_letter" ["byte"] spIsLetter) (D_is_digit : Dn P w K mg base CX0 1 "is_digit" ["byte"] spIsDigit)
    (D_letters_end : Dn P w K mg base CX0 2 "letters_end" ["data", "at"] (spEnd isLetter)) (D_digits_end : Dn P w K mg base CX0 2 "digits_end" ["data", "at"] (spEnd isDigit))
    (D_word_at : DnC P w K mg base (L2.CX P w) 3 "word_at" ["data", "at", "end"] (spWordAt K)) (D_number_at : Dn P w K mg base (L2.CX P w) 3 "number_at" ["data", "at", "end"] (spNumAt K)) : DnC P w K mg base (L2.CX P w) 4 "token_at" ["data", "at"] (spTokenAt K) := A.dnC fun f fd F => by
  refine okC F sc_token_at (fun vs H n Q E h => ?_) (fun cdv A outer s H vs n Q E hr h => ?_)
  · obtain ⟨a, b, i, rfl, _⟩ := h
    rfl
  obtain ⟨a, b, i, rfl, ha, hz, hi, k1, k2⟩ := h
  have hc : b[i]? = some b[i] := List.getElem?_eq_getElem hi
  generalize b[i] = c at hc
  refine ⟨_, (pssc_if (pt_val (pe_f D_is_letter (hr.mono (by decide)) pass0 (pa_cons (pe_ix ix_list (pv 0) (pv 1) (fun _ _ => rfl)) pa_nil)))
      (pssc_std (ps_set (i := 2) sc_token_at.nd rfl (Or.inl rfl) (pe_f D_letters_end (hr.mono (by decide)) pass0 (pa_cons (pv 0) (pa_cons (pv 1) pa_nil))))
      (pssc_ret (pec_tup (pac_cons (pec_f D_word_at (hr.mono (by decide)) (passes_call (takes_of rfl rfl rfl rfl) (fun _ _ _ _ h => h)) (PAc.of (pa_cons (pv 0) (pa_cons (pv 1) (pa_cons (pv 2) pa_nil))))) (PAc.of (pa_cons (pv 2) pa_nil))))))
      pssc_nil
      (pssc_if (pt_val (pe_f D_is_digit (hr.mono (by decide)) pass0 (pa_cons (pe_ix ix_list (pv 0) (pv 1) (fun _ _ => rfl)) pa_nil)))
      (pssc_std (ps_set (i := 2) sc_token_at.nd rfl (Or.inl rfl) (pe_f D_digits_end (hr.mono (by decide)) pass0 (pa_cons (pv 0) (pa_cons (pv 1) pa_nil))))
      (pssc_ret (PEc.of (pe_tup (pa_cons (pe_f D_number_at (hr.mono (by decide)) (passes_call (takes_of rfl rfl rfl rfl) (fun _ _ _ _ h => h)) (pa_cons (pv 0) (pa_cons (pv 1) (pa_cons (pv 2) pa_nil)))) (pa_cons (pv 2) pa_nil))))))
      pssc_nil
      (pssc_std (ps_if (pt_cmpR op_ne (pe_ix ix_list (pv 0) (pv 1) (fun _ _ => rfl)) (pe_gint T.g_SEMICOLON) (nomark _))
      (pss_one (ps_raise rfl (takes_of rfl rfl rfl rfl) (pmk_D T.ox_Fault D_Fault (hr.mono (by decide)) (by rfl) (pa_cons (pe_gint T.g_NO_TOKEN) (pa_cons (pv 1) pa_nil)))))
      pss_nil)
      (pssc_ret (PEc.of (pe_tup (pa_cons (pe_tok D_Token (hr.mono (by decide)) (pa_cons (pe_gint T.g_SIGN) (pa_cons pe_str (pa_cons pe_int (pa_cons (pv 1) pa_nil))))) (pa_cons (pe_op op_add (pv 1) pe_int) pa_nil)))))))), ?_⟩
  refine ⟨_, rfl, _, rfl, _, _, _, _, rfl, rfl, .of ha, atI_nat (vB_get hc), c, rfl, _, rfl, ?_⟩
  refine if_of (fun c1 => ?_) (fun c1 => ?_)
  · rw [token_letters hc c1] at k1 k2
    refine ⟨_, rfl, _, rfl, a, b, i, rfl, ha, hz, Nat.le_of_lt hi, ?_⟩
    refine ⟨_, rfl, _, rfl, _, rfl, fun us rs => ⟨a, b, i, rfl, ha, hz, hi, fun c2 r t H' n' s1 tk h1 h2 => ?_, fun c2 => k2 (if_pos c2)⟩⟩
    refine ⟨_, rfl, fun us2 rs2 => ⟨by show 2 ≤ sizeLine; decide, fun y hy => ?_⟩⟩
    exact k1 _ (if_neg (by omega)) y r t _ n' (s1.new hy) (s1.free hy) upd_same (tk.mono ((Same.refl H').new hy)) (fun _ => ⟨h1, h2⟩) (by omega)
  · refine ⟨_, rfl, _, rfl, _, _, _, _, rfl, rfl, .of ha, atI_nat (vB_get hc), c, rfl, _, rfl, ?_⟩
    refine if_of (fun c2 => ?_) (fun c2 => ?_)
    · rw [token_digits hc c1 c2] at k1 k2
      refine ⟨_, rfl, _, rfl, a, b, i, rfl, ha, hz, Nat.le_of_lt hi, ?_⟩
      refine ⟨_, rfl, _, rfl, _, rfl, a, b, i, rfl, ha, hz, ⟨c, hc, c2⟩, fun k hk r t H' s1 tk => ?_, fun hk => k2 (by rw [hk]; rfl)⟩
      refine ⟨_, rfl, by show 2 ≤ sizeLine; decide, fun y hy u hu => ?_⟩
      cases hu
      exact k1 (.num k, runLen isDigit b i) (by rw [hk]; rfl) y r t _ n (s1.new hy) (s1.free hy) upd_same (tk.mono ((Same.refl H').new hy)) (fun z => absurd z Bool.false_ne_true) (Nat.le_refl _)
    · rw [token_other hc c1 c2] at k1 k2
      refine ⟨_, rfl, _, rfl, _, _, _, _, rfl, rfl, .of ha, atI_nat (vB_get hc), rfl, _, rfl, ?_⟩
      have h59 : (c = 59) ↔ c.toNat = 59 := byte_eq (n := 59) (by decide)
      by_cases c3 : c = 59
      · have e := h59.mp c3
        refine if_no (by rw [show (V.int (c.toNat : Int)) = V.int 59 from by rw [show (c.toNat : Int) = 59 from by omega]]; rfl) ?_
        refine ⟨_, rfl, _, _, _, _, rfl, fun uk ut un up r1 r2 r3 r4 x dx hx hdx hne => ?_⟩
        obtain ⟨t, rfl⟩ := r2
        refine ⟨_, rfl, _, _, rfl, rfl, by show 2 ≤ sizeLine; decide, fun y hy u hu => ?_⟩
        cases hu
        have s1 := same_made (o := nsX dx (tokMap uk (.str "" t) un up)) (u := inX x (cA K "Token") dx) hx hdx hne
        exact k1 (.sign 59, 1) (if_pos c3) y x t _ n (s1.new hy) (s1.free hy) upd_same ((TkAt.made (p := ⟨i, .sign 59⟩) hne r1 rfl r3 r4).mono ((Same.refl _).new hy)) (fun z => absurd z Bool.false_ne_true) (Nat.le_refl _)
      · refine if_yes (by rw [decide_eq_false (fun z => c3 (by have := V.int.inj z; rw [h59]; omega))]; rfl) ?_
        exact ⟨_, rfl, mkF rfl (by decide) fun d H' s hd => k2 (if_neg c3) d H' s hd⟩
end
end Lp
end
section
set_option maxHeartbeats 4000000
/-! ### all tokens -/
namespace Lp
open PySem PySem.Spec PyProof.Rows L2
open PySem.W (Frag)
open VasedBase (Bytes word showNat isLetter isDigit isBlank decimal numberOf PTok Toks token lex tokens)
abbrev TkL := List (Addr × PTok × Nat)
def TksAt (K : Frag) (H : Hp) (l : TkL) : Prop := ∀ e ∈ l, TkAt K H e.1 e.2.1 e.2.2
theorem TksAt.mono {K : Frag} {H H' : Hp} {l : TkL} (s : Same H H') (h : TksAt K H l) : TksAt K H' l := fun e he => (h e he).mono s
/-- the tokens of the words' texts: between two clocks, no two the same -/
def DisT (n k : Nat) (l : TkL) : Prop := (∀ e ∈ l, isNm e.2.1.tok = true → n ≤ e.2.2 ∧ e.2.2 < k) ∧ l.Pairwise fun e e' => isNm e.2.1.tok = true → isNm e'.2.1.tok = true → e.2.2 ≠ e'.2.2
theorem DisT.add {n k k' : Nat} {l : TkL} {e : Addr × PTok × Nat} (h : DisT n k l) (hk : k ≤ k') (hn : n ≤ k) (he : isNm e.2.1.tok = true → k ≤ e.2.2 ∧ e.2.2 < k') : DisT n k' (l ++ [e]) := by
  refine ⟨fun x hx nm => ?_, List.pairwise_append.mpr ⟨h.2, List.pairwise_singleton _ _, fun x hx y hy n1 n2 => ?_⟩⟩
  · rcases List.mem_append.mp hx with hx | hx
    · have := h.1 x hx nm
      omega
    · rw [List.mem_singleton.mp hx] at nm ⊢
      have := he nm
      omega
  · rw [List.mem_singleton.mp hy] at n2 ⊢
    have := h.1 x hx n1
    have := he n2
    omega
def addrsOf (l : TkL) : List V := l.map fun e => V.ref e.1
def specOf (l : TkL) : Toks := l.map (·.2.1)
theorem in_blanks (c : UInt8) : inV (.int (c.toNat : Int)) [.int 32, .int 9, .int 10] = isBlank c := by
  have t : ∀ n : Fin 256, inV (.int (n.val : Int)) [.int 32, .int 9, .int 10] = isBlank (UInt8.ofNat n.val) := by decide +kernel
  have := t ⟨c.toNat, c.toNat_lt⟩
  simpa using this
theorem same_put {H H' : Hp} {F : Addr} {o : HO} (s : Same H H') (hF : H F = none) : Same H (L2.upd H' F o) := s.mut hF
theorem map_app (e : Except VasedBase.Fault Toks) (l : Toks) (p : PTok) : ((e.map fun r => p :: r).map fun r => l ++ r) = e.map fun r => (l ++ [p]) ++ r := by
  cases e with
  | error f => rfl
  | ok r => exact congrArg Except.ok (List.append_assoc l [p] r).symm
section
variable {P : Program} {w : World} {K : Frag} {mg : Str → Option Value} {base : Heap}
abbrev s_tokens_of : Stmt := topS 47
theorem sc_tokens_of : FnScope ["data", "found", "at", "token"] ["data"] (defScope s_tokens_of) := ⟨rfl, rfl, rfl, by decide +kernel, rfl, by decide +kernel, by decide +kernel⟩
def spTokens (K : Frag) : Spc := fun vs H n Q E => ∃ (a : Addr) (b : Bytes), vs = [.ref a] ∧ H a = some (.lst (vB b)) ∧ b.length ≤ 100000 ∧
  (∀ ps, tokens b = .ok ps → ∀ r l H' n', Same H H' → H r = none → H' r = some (.lst (addrsOf l)) → specOf l = ps → TksAt K H' l → DisT n n' l → n ≤ n' → Q (.ref r) (.ref r) H' n') ∧ (∀ f, tokens b = .error f → FauE K E H f)
theorem ok_tokens_of (A : FnAt K mg "tokens_of" s_tokens_of ["data"]) (T : Txt K mg) (D_Fault : De P w K mg base 1 "Fault" (cA K "Fault") ["self", "code", "place"] (spEx (cA K "Fault") 2 xFault)) (D_Token : DTok P w K mg base)
    (D_remark_end : Dn P w K mg base CX0 1 "remark_end" ["data", "at"] (spEnd fun x => x != 10))
    (D_token_at : DnC P w K mg base (L2.CX P w) 4 "token_at" ["data", "at"] (spTokenAt K)) : DnC P w K mg base (L2.CX P w) 5 "tokens_of" ["data"] (spTokens K) := A.dnC fun f fd F => by
  refine okC F sc_tokens_of (fun vs H n Q E h => ?_) (fun cdv A outer s H vs n Q E hr h => ?_)
  · obtain ⟨a, b, rfl, _⟩ := h
    rfl
  obtain ⟨a, b, rfl, ha, hz, k1, k2⟩ := h
  refine ⟨_, (pssc_std (ps_if (pt_cmpR op_gt (pe_callB call_len (by rfl) T.f_len PySem.boot_len (pa_cons (pv 0) pa_nil)) (pe_gint T.g_MOST_BYTES) (nomark _))
      (pss_one (ps_raise rfl (takes_of rfl rfl rfl rfl) (pmk_D T.ox_Fault D_Fault (hr.mono (by decide)) (by rfl) (pa_cons (pe_gint T.g_TOO_LONG) (pa_cons (pe_gint T.g_MOST_BYTES) pa_nil)))))
      pss_nil)
      (pssc_std (ps_set (i := 1) sc_tokens_of.nd rfl (Or.inl rfl) (pe_lst pa_nil))
      (pssc_std (ps_set (i := 2) sc_tokens_of.nd rfl (Or.inl rfl) pe_int)
      (pssc_while (passes_of rfl) (pt_cmpR op_lt (pv 2) (pe_callB call_len (by rfl) T.f_len PySem.boot_len (pa_cons (pv 0) pa_nil)) (nomark _))
      (pssc_if (pt_cmpR op_in_seq (pe_ix ix_list (pv 0) (pv 2) (fun _ _ => rfl)) (pe_gref T.g_BLANKS) (by rfl))
      (pssc_std (ps_aug (i := 2) sc_tokens_of.nd rfl (.inl rfl) pe_int ip_add)
      pssc_nil)
      (pssc_if (pt_cmpR op_eq (pe_ix ix_list (pv 0) (pv 2) (fun _ _ => rfl)) (pe_gint T.g_REMARK) (nomark _))
      (pssc_std (ps_set (i := 2) sc_tokens_of.nd rfl (Or.inl rfl) (pe_f D_remark_end (hr.mono (by decide)) pass0 (pa_cons (pv 0) (pa_cons (pv 2) pa_nil))))
      pssc_nil)
      (pssc_asg (pec_f D_token_at (hr.mono (by decide)) (passes_call (takes_of rfl rfl rfl rfl) (fun _ _ _ _ h => h)) (PAc.of (pa_cons (pv 0) (pa_cons (pv 2) pa_nil)))) (pg_tup (by rfl) (pgs_cons (pg_name (i := 3) sc_tokens_of.nd rfl (Or.inl rfl)) (pgs_cons (pg_name (i := 2) sc_tokens_of.nd rfl (Or.inl rfl)) pgs_nil)))
      (pssc_std (ps_expr (pe_bm PySem.F.plainAttrs_list PySem.F.slot_list_append PySem.F.type_list_append mt_append (pv 1) (pa_cons (pv 3) pa_nil)))
      pssc_nil))
      pssc_nil)
      pssc_nil)
      (pssc_ret (PEc.of (pe_op op_cat (pv 1) (pe_lst (pa_cons (pe_tok D_Token (hr.mono (by decide)) (pa_cons (pe_gint T.g_END) (pa_cons pe_str (pa_cons pe_int (pa_cons (pe_callB call_len (by rfl) T.f_len PySem.boot_len (pa_cons (pv 0) pa_nil)) pa_nil))))) pa_nil))))))))), ?_⟩
  refine ⟨_, rfl, _, b.length, rfl, .inl ⟨_, .of ha, by simp⟩, _, _, rfl, rfl, _, rfl, ?_⟩
  refine if_of (fun c0 => ?_) (fun c0 => ?_)
  · have c0 : 4096 < b.length := by have := of_decide_eq_true c0; omega
    exact mkF rfl (by decide) fun d H' s hd => k2 ⟨1, 4096⟩ (if_pos c0) d H' s hd
  have c0 : ¬ 4096 < b.length := by have := of_decide_eq_false c0; omega
  have et : tokens b = lexAt b (b.length + 1) 0 := if_neg c0
  rw [et] at k1 k2
  refine ⟨by show 0 ≤ sizeLine; decide, fun F0 hF0 => ?_⟩
  have haF : ∀ {H' : Hp}, Same H H' → H' a = some (.lst (vB b)) := fun s => s _ _ ha
  refine ⟨fun m σ H' n' => ∃ (i : Nat) (l : TkL) (x3 : Option V), σ = [some (.ref a), some (.ref F0), some (.int (i : Nat)), x3] ∧ Same H H' ∧ H' F0 = some (.lst (addrsOf l)) ∧ TksAt K H' l ∧ DisT n n' l ∧ n ≤ n' ∧ i ≤ b.length ∧ b.length - i < m ∧ l.length ≤ i ∧
    lexAt b (b.length + 1) 0 = (lexAt b m i).map fun r => specOf l ++ r, ⟨b.length + 1, 0, [], none, rfl, (Same.refl H).new hF0, upd_same, (fun e he => nomatch he), ⟨(fun e he => nomatch he), .nil⟩, Nat.le_refl _, Nat.zero_le _, by omega, Nat.le_refl _, ?_⟩, ?_⟩
  · cases lexAt b (b.length + 1) 0 <;> rfl
  rintro m σ H' n' ⟨i, l, x3, rfl, s1, hl, tk, di, hn, hi, hm, hll, eq⟩
  obtain ⟨m, rfl⟩ : ∃ k, m = k + 1 := ⟨m - 1, by omega⟩
  have aF : a ≠ F0 := fun z => by rw [z, hF0] at ha; cases ha
  refine ⟨_, rfl, _, rfl, _, b.length, rfl, .inl ⟨_, .of (haF s1), by simp⟩, _, _, rfl, rfl, _, rfl, ?_⟩
  refine if_of (fun c1 => ?_) (fun c1 => ?_)
  · have c1 : i < b.length := by have := of_decide_eq_true c1; omega
    have hc : b[i]? = some b[i] := List.getElem?_eq_getElem c1
    generalize b[i] = c at hc
    refine ⟨_, fun _ _ _ z => z, ?_⟩
    refine ⟨_, rfl, _, rfl, _, _, _, _, rfl, rfl, .of (haF s1), atI_nat (vB_get hc), ?_⟩
    refine ⟨cA K "BLANKS", _, rfl, .inr (T.tt_BLANKS _), rfl, rfl, _, rfl, ?_⟩
    rw [show (if false = true then !inV (V.int (c.toNat : Int)) [.int 32, .int 9, .int 10] else inV (V.int (c.toNat : Int)) [.int 32, .int 9, .int 10]) = isBlank c from in_blanks c]
    refine if_of (fun c2 => ?_) (fun c2 => ?_)
    · rw [lex_blank hc c2] at eq
      exact ⟨_, rfl, _, _, rfl, rfl, m, Nat.lt_succ_self _, i + 1, l, x3, rfl, s1, hl, tk, di, hn, c1, by omega, by omega, eq⟩
    · have h35 : (c = 35) ↔ c.toNat = 35 := byte_eq (n := 35) (by decide)
      refine ⟨_, rfl, _, rfl, _, _, _, _, rfl, rfl, .of (haF s1), atI_nat (vB_get hc), rfl, _, rfl, ?_⟩
      by_cases c3 : c = 35
      · rw [lex_remark hc c2 c3] at eq
        have r1 := run_here (p := (· != 10)) hc (by rw [c3]; rfl)
        have r2 := run_le (· != 10) b i
        refine if_yes (by have e := h35.mp c3; rw [show (V.int (c.toNat : Int)) = V.int 35 from by rw [show (c.toNat : Int) = 35 from by omega]]; rfl) ?_
        refine ⟨_, rfl, _, rfl, a, b, i, rfl, haF s1, hz, hi, ?_⟩
        exact ⟨m, Nat.lt_succ_self _, i + runLen (· != 10) b i, l, x3, rfl, s1, hl, tk, di, hn, by omega, by omega, by omega, eq⟩
      · rw [lex_token hc c2 c3] at eq
        refine if_no (by rw [decide_eq_false (fun z => c3 (by have := V.int.inj z; rw [h35]; omega))]) ?_
        refine ⟨_, rfl, _, rfl, fun us rs => ⟨a, b, i, rfl, haF s1, hz, c1, fun x hx y r t H3 n3 s3 hy0 hy tk3 nm3 hn3 => ?_, fun hx => ?_⟩⟩
        · rw [hx] at eq
          have hl3 := s3 _ _ hl
          refine ⟨y, _, rfl, .of hy, rfl, _, _, rfl, _, _, rfl, rfl, ?_⟩
          refine ⟨_, rfl, .inl ⟨rfl, _, .of hl3⟩, _, rfl, F0, _, _, rfl, rfl, hl3, ?_, ?_⟩
          · unfold addrsOf
            exact small (by rw [List.length_map]; omega)
          obtain ⟨r0, r2, _⟩ := token_len hc hx
          refine ⟨m, Nat.lt_succ_self _, i + x.2, l ++ [(r, ⟨i, x.1⟩, t)], _, rfl, (s1.trans s3).mut hF0, ?_, ?_, di.add hn3 hn nm3, by omega, r2, by omega, by rw [List.length_append]; show l.length + 1 ≤ _; omega, ?_⟩
          · rw [upd_same]
            unfold addrsOf
            rw [List.map_append]
            rfl
          · intro e he
            rcases List.mem_append.mp he with he | he
            · exact ((tk e he).mono s3).put hl3
            · rw [List.mem_singleton.mp he]
              exact tk3.put hl3
          · rw [eq]
            unfold specOf
            rw [List.map_append]
            exact map_app _ _ _
        · rw [hx] at eq
          exact (k2 ⟨2, i⟩ (by rw [eq]; rfl)).mono s1
  · have c1 : b.length ≤ i := by have := of_decide_eq_false c1; omega
    rw [lex_stop c1] at eq
    have ei : i = b.length := Nat.le_antisymm hi c1
    refine ⟨_, rfl, _, rfl, _, b.length, rfl, .inl ⟨_, .of (haF s1), by simp⟩, _, _, _, _, rfl, fun uk ut un up r1 r2 r3 r4 x dx hx hdx hne => ?_⟩
    obtain ⟨t, rfl⟩ := r2
    have s2 := same_made (o := nsX dx (tokMap uk (.str "" t) un up)) (u := inX x (cA K "Token") dx) hx hdx hne
    refine ⟨by show 1 ≤ sizeLine; decide, fun p hp => ?_⟩
    have s3 := s2.new (o := .lst [V.ref x]) hp
    have hF3 := s3 _ _ hl
    refine ⟨F0, p, _, _, rfl, rfl, hF3, upd_same, ?_, fun g hg u hu => ?_⟩
    · unfold addrsOf
      exact small' (by simp only [List.length_map, List.length_singleton]; omega)
    cases hu
    have s4 := s3.new (o := .lst (addrsOf l ++ [V.ref x])) hg
    refine k1 _ (by rw [eq]; rfl) g (l ++ [(x, ⟨i, .last⟩, t)]) _ n' (s1.trans s4) ((s1.trans s3).free hg) ?_ ?_ ?_ (di.add (e := (x, ⟨i, .last⟩, t)) (Nat.le_refl _) hn fun z => absurd z Bool.false_ne_true) hn
    · rw [upd_same]
      unfold addrsOf
      rw [List.map_append]
      rfl
    · unfold specOf
      rw [List.map_append]
      rfl
    · intro e he
      rcases List.mem_append.mp he with he | he
      · exact (tk e he).mono s4
      · rw [List.mem_singleton.mp he]
        exact ((TkAt.made (K := K) (p := ⟨i, .last⟩) hne r1 rfl r3 (by rw [ei]; exact r4)).mono ((Same.refl _).new hp)).mono ((Same.refl _).new hg)
end
end Lp
end
section
set_option maxHeartbeats 4000000
/-! ### taking tokens, by places -/
namespace Lp
open VasedBase (Bytes word isLetter isDigit isBlank PTok Toks lex token tokens next nextWord here wrong takeName takeWord takeSign taken tokEq)
open Vaseda (takeNum takeLetters takeAddr takeInstead takeDeed takeCmd takeCmds Cmd Deed)
def restT (l : TkL) (k : Nat) : Toks := (specOf l).drop k
theorem rest_at {l : TkL} {k : Nat} {e : _} (h : l[k]? = some e) : restT l k = e.2.1 :: restT l (k + 1) := by
  unfold restT specOf
  rw [List.drop_eq_getElem?_toList_append, List.getElem?_map, h]
  rfl
/-- last stands at the end, and there alone; names have one letter at least, at most eight -/
structure WfT (ps : Toks) : Prop where
  fin : ∀ k p, ps[k]? = some p → (p.tok = .last ↔ k + 1 = ps.length)
  nm : ∀ p ∈ ps, ∀ b, p.tok = .name b → b ≠ [] ∧ b.length ≤ 8
  sg : ∀ p ∈ ps, ∀ c, p.tok = .sign c → c = 59
theorem lex_wf (b : Bytes) : ∀ (m i : Nat) (ps : Toks), i ≤ b.length → b.length - i < m → lexAt b m i = .ok ps → WfT ps ∧ ps ≠ []
  | 0, i, ps, _, hm, _ => absurd hm (Nat.not_lt_zero _)
  | m + 1, i, ps, hi, hm, h => by
    rcases Nat.lt_or_ge i b.length with c1 | c1
    · have hc : b[i]? = some b[i] := List.getElem?_eq_getElem c1
      generalize b[i] = c at hc
      cases c2 : isBlank c with
      | true =>
        rw [lex_blank hc c2] at h
        exact lex_wf b m (i + 1) ps c1 (by omega) h
      | false =>
        by_cases c3 : c = 35
        · rw [lex_remark hc c2 c3] at h
          have r1 := run_here (p := (· != 10)) hc (by rw [c3]; rfl)
          have r2 := run_le (· != 10) b i
          exact lex_wf b m _ ps (by omega) (by omega) h
        · rw [lex_token hc c2 c3] at h
          cases ht : token (b.drop i) with
          | none => rw [ht] at h; cases h
          | some x =>
            rw [ht] at h
            dsimp only at h
            obtain ⟨r1, r2, r3⟩ := token_len hc ht
            cases hr : lexAt b m (i + x.2) with
            | error f => rw [hr] at h; cases h
            | ok qs =>
              rw [hr] at h
              cases h
              obtain ⟨w1, w2⟩ := lex_wf b m (i + x.2) qs r2 (by omega) hr
              refine ⟨⟨fun k p hk => ?_, fun p hp nb hnb => ?_, fun p hp sc hsc => ?_⟩, fun z => nomatch z⟩
              · cases k with
                | zero =>
                  cases hk
                  have hl : qs.length ≠ 0 := fun z => w2 (List.length_eq_zero_iff.mp z)
                  exact ⟨fun z => absurd z r3, fun z => absurd z (by rw [List.length_cons]; omega)⟩
                | succ k =>
                  rw [List.getElem?_cons_succ] at hk
                  rw [w1.fin k p hk, List.length_cons]
                  omega
              · rcases List.mem_cons.mp hp with rfl | hp
                · cases hl : isLetter c with
                  | true =>
                    rw [token_letters hc hl] at ht
                    split at ht
                    · cases ht
                    · cases ht
                      cases hnb
                      have q1 := run_here (p := isLetter) hc hl
                      have q2 := run_le isLetter b i
                      refine ⟨fun z => ?_, by rw [List.length_take]; omega⟩
                      have := congrArg List.length z
                      rw [List.length_take, List.length_drop] at this
                      simp at this
                      omega
                  | false =>
                    cases hd : isDigit c with
                    | true =>
                      rw [token_digits hc hl hd] at ht
                      obtain ⟨n, _, rfl⟩ := Option.map_eq_some_iff.mp ht
                      cases hnb
                    | false =>
                      rw [token_other hc hl hd] at ht
                      split at ht
                      · cases ht
                        cases hnb
                      · cases ht
                · exact w1.nm p hp nb hnb
              · rcases List.mem_cons.mp hp with rfl | hp
                · cases hl : isLetter c with
                  | true =>
                    rw [token_letters hc hl] at ht
                    split at ht
                    · cases ht
                    · cases ht
                      cases hsc
                  | false =>
                    cases hd : isDigit c with
                    | true =>
                      rw [token_digits hc hl hd] at ht
                      obtain ⟨n, _, rfl⟩ := Option.map_eq_some_iff.mp ht
                      cases hsc
                    | false =>
                      rw [token_other hc hl hd] at ht
                      split at ht
                      · cases ht
                        cases hsc
                        rfl
                      · cases ht
                · exact w1.sg p hp sc hsc
    · rw [lex_stop c1] at h
      cases h
      refine ⟨⟨fun k p hk => ?_, fun p hp nb hnb => ?_, fun p hp sc hsc => ?_⟩, fun z => nomatch z⟩
      · cases k with
        | zero => cases hk; exact ⟨fun _ => rfl, fun _ => rfl⟩
        | succ k => rw [List.getElem?_cons_succ] at hk; simp at hk
      · rw [List.mem_singleton.mp hp] at hnb
        cases hnb
      · rw [List.mem_singleton.mp hp] at hsc
        cases hsc
theorem tokens_wf {b : Bytes} {ps : Toks} (h : tokens b = .ok ps) : WfT ps ∧ ps ≠ [] := by
  unfold VasedBase.tokens at h
  split at h
  · cases h
  · exact lex_wf b (b.length + 1) 0 ps (Nat.zero_le _) (by omega) h
theorem lex_len : ∀ (m i : Nat) (b : Bytes) (ps : Toks), lex m i b = .ok ps → ps.length ≤ m + 1
  | 0, i, b, ps, h => by
    cases h
    exact Nat.le_refl _
  | m + 1, i, [], ps, h => by
    cases h
    exact Nat.le_add_left _ _
  | m + 1, i, c :: r, ps, h => by
    rw [VasedBase.lex] at h
    split at h
    · have := lex_len m _ _ ps h; omega
    · split at h
      · have := lex_len m _ _ ps h; omega
      · cases ht : token (c :: r) with
        | none => rw [ht] at h; cases h
        | some x =>
          rw [ht] at h
          dsimp only at h
          cases hr : lex m (i + x.2) ((c :: r).drop x.2) with
          | error f => rw [hr] at h; cases h
          | ok qs =>
            rw [hr] at h
            cases h
            have := lex_len m _ _ qs hr
            rw [List.length_cons]
            omega
theorem tokens_len {b : Bytes} {ps : Toks} (h : tokens b = .ok ps) : ps.length ≤ 5000 := by
  unfold VasedBase.tokens at h
  split at h
  · cases h
  · rename_i c
    have c : ¬ 4096 < b.length := c
    have := lex_len _ _ _ _ h
    omega
/-! the next token -/
theorem next_cons {t : STok} {p : PTok} {r : Toks} : next t (p :: r) = tokEq p.tok t := rfl
theorem tokEq_name {a : STok} {b : Bytes} : tokEq a (.name b) = true ↔ a = .name b := by
  cases a with
  | name x => exact ⟨fun h => by rw [eq_of_beq h], fun h => by cases h; exact beq_self_eq_true _⟩
  | num _ => exact ⟨fun h => (nomatch h), fun h => nomatch h⟩
  | sign _ => exact ⟨fun h => (nomatch h), fun h => nomatch h⟩
  | last => exact ⟨fun h => (nomatch h), fun h => nomatch h⟩
theorem word_inj_ne {s t : String} (h : word s ≠ word t) {p : PTok} {r : Toks} (hs : nextWord s (p :: r) = true) : nextWord t (p :: r) = false := by
  have e := tokEq_name.mp (show tokEq p.tok (.name (word s)) = true from hs)
  show tokEq p.tok (.name (word t)) = false
  rw [e]
  exact beq_eq_false_iff_ne.mpr h
/-! addresses: not, and the rest -/
def plainAddr (l : Toks) : Except VasedBase.Fault (Vaseda.Addr × Toks) :=
  if nextWord "all" l = true then .ok (.all, l.drop 1)
  else if nextWord "line" l = true then (takeNum 1 Vaseda.LINE (l.drop 1)).map fun x => (.line x.1, x.2)
  else if nextWord "from" l = true then (takeNum 1 Vaseda.LINE (l.drop 1)).bind fun x => (takeWord "to" x.2).bind fun l => (takeNum x.1 Vaseda.LINE l).map fun y => (.span x.1 y.1, y.2)
  else if nextWord "last" l = true then .ok (.last, l.drop 1)
  else if nextWord "has" l = true then (takeLetters (l.drop 1)).map fun x => (.has x.1, x.2)
  else if nextWord "is" l = true then (takeLetters (l.drop 1)).map fun x => (.is_ x.1, x.2)
  else wrong l
def nt : Nat → Vaseda.Addr → Vaseda.Addr
  | 0, a => a
  | j + 1, a => .not (nt j a)
theorem nt_not : ∀ (j : Nat) (a : Vaseda.Addr), nt j (.not a) = nt (j + 1) a
  | 0, _ => rfl
  | j + 1, a => congrArg Vaseda.Addr.not (nt_not j a)
theorem addr_not {f n : Nat} {p : PTok} {r : Toks} (h : nextWord "not" (p :: r) = true) : takeAddr (f + 1) n (p :: r) = if 3 ≤ n then .error ⟨4, here (p :: r)⟩ else (takeAddr f (n + 1) r).map fun x => (.not x.1, x.2) := by
  conv => lhs; rw [Vaseda.takeAddr]
  rw [if_neg (by rw [word_inj_ne (t := "all") (by decide) h]; exact Bool.false_ne_true), if_neg (by rw [word_inj_ne (t := "line") (by decide) h]; exact Bool.false_ne_true), if_neg (by rw [word_inj_ne (t := "from") (by decide) h]; exact Bool.false_ne_true),
    if_neg (by rw [word_inj_ne (t := "last") (by decide) h]; exact Bool.false_ne_true), if_neg (by rw [word_inj_ne (t := "has") (by decide) h]; exact Bool.false_ne_true), if_neg (by rw [word_inj_ne (t := "is") (by decide) h]; exact Bool.false_ne_true), if_pos h]
  rfl
theorem addr_plain {f n : Nat} {l : Toks} (h : nextWord "not" l = false) : takeAddr (f + 1) n l = plainAddr l := by
  conv => lhs; rw [Vaseda.takeAddr]
  unfold plainAddr
  rw [if_neg (show ¬ nextWord "not" l = true by rw [h]; exact Bool.false_ne_true)]
end Lp
end
section
set_option maxHeartbeats 4000000
/-! ### the reader -/
namespace Lp
open PySem PySem.Spec PyProof.Rows L2
open PySem.W (Frag)
open VasedBase (Bytes word PTok Toks next nextWord here takeWord takeSign tokEq)
theorem tm_place {uk ut un up : Value} : tokMap uk ut un up "place" = some up := by kernel_rfl
theorem tm_number {uk ut un up : Value} : tokMap uk ut un up "number" = some un := by kernel_rfl
theorem tm_text {uk ut un up : Value} : tokMap uk ut un up "text" = some ut := by kernel_rfl
theorem tm_kind {uk ut un up : Value} : tokMap uk ut un up "kind" = some uk := by kernel_rfl
/-- the reader at rd stands at the k-th of the tokens l; H0: the heap ahead of it -/
structure RdS (K : Frag) (H0 H : Hp) (rd tl : Addr) (l : TkL) (k : Nat) : Prop where
  s0 : Same H0 H
  n0 : H0 rd = none
  hr : ∃ dx, H rd = some (.ins (cA K "Reader") dx (F_Reader (.ref tl) (.int (k : Nat))))
  ht : H tl = some (.lst (addrsOf l))
  tk : TksAt K H l
  wf : WfT (specOf l)
  kl : k < l.length
  big : l.length ≤ 100000
theorem TkAt.sbut {K : Frag} {H H' : Hp} {rd C dx : Addr} {fs : List (Str × V)} {a : Addr} {p : PTok} {t : Nat} (hr : H rd = some (.ins C dx fs)) (sb : Sbut rd H H') : TkAt K H a p t → TkAt K H' a p t := fun ⟨dy, uk, ut, un, up, h, r⟩ => by
  refine ⟨dy, uk, ut, un, up, ⟨sb _ _ h.hi fun z => ?_, sb _ _ h.hd fun z => ?_, h.ne⟩, r⟩
  · have q := h.hi
    rw [z, hr] at q
    cases q
  · have q := h.hd
    rw [z, hr] at q
    cases q
theorem same_sbut {H0 H H' : Hp} {rd : Addr} (s0 : Same H0 H) (n0 : H0 rd = none) (sb : Sbut rd H H') : Same H0 H' := fun b o e => sb b o (s0 b o e) fun z => by rw [z, n0] at e; cases e
theorem RdS.move {K : Frag} {H0 H H' : Hp} {rd tl : Addr} {l : TkL} {k k' : Nat} (S : RdS K H0 H rd tl l k) (sb : Sbut rd H H') (hr : ∃ dx, H' rd = some (.ins (cA K "Reader") dx (F_Reader (.ref tl) (.int (k' : Nat))))) (kl : k' < l.length) : RdS K H0 H' rd tl l k' := by
  obtain ⟨dx, h⟩ := S.hr
  refine ⟨same_sbut S.s0 S.n0 sb, S.n0, hr, sb _ _ S.ht fun z => ?_, fun e he => (S.tk e he).sbut h sb, S.wf, kl, S.big⟩
  have q := S.ht
  rw [z, h] at q
  cases q
theorem RdS.same {K : Frag} {H0 H H' : Hp} {rd tl : Addr} {l : TkL} {k : Nat} (S : RdS K H0 H rd tl l k) (s : Same H H') : RdS K H0 H' rd tl l k := by
  obtain ⟨dx, h⟩ := S.hr
  exact S.move (Sbut.of s) ⟨dx, s _ _ h⟩ S.kl
theorem RdS.cur {K : Frag} {H0 H : Hp} {rd tl : Addr} {l : TkL} {k : Nat} (S : RdS K H0 H rd tl l k) : ∃ e, l[k]? = some e ∧ (addrsOf l)[k]? = some (.ref e.1) ∧ TkAt K H e.1 e.2.1 e.2.2 ∧ restT l k = e.2.1 :: restT l (k + 1) ∧ (e.2.1.tok ≠ .last → k + 1 < l.length) := by
  have kl := S.kl
  have h : l[k]? = some l[k] := List.getElem?_eq_getElem kl
  generalize l[k] = e at h
  refine ⟨e, h, by unfold addrsOf; rw [List.getElem?_map, h]; rfl, S.tk e (List.mem_of_getElem? h), rest_at h, fun ne => ?_⟩
  have q := S.wf.fin k e.2.1 (by unfold specOf; rw [List.getElem?_map, h]; rfl)
  have hl : (specOf l).length = l.length := by unfold specOf; rw [List.length_map]
  have := S.kl
  rcases Nat.lt_or_ge (k + 1) l.length with c | c
  · exact c
  · exact absurd (q.mpr (by omega)) ne
theorem FauE.at {K : Frag} {E : XK} {H0 H H' : Hp} {rd tl : Addr} {l : TkL} {k : Nat} {c p : Nat} {d : Addr} (S : RdS K H0 H rd tl l k) (h : FauE K E H0 ⟨c, p⟩) (s : Same H H') (hd : H' d = some (.xd [("place", .int (p : Nat)), ("code", .int (c : Nat))])) : E (.ref (cA K "Fault")) (some d) H' := h d H' (S.s0.trans s) hd
section
variable {P : Program} {w : World} {K : Frag} {mg : Str → Option Value} {base : Heap}
abbrev s_Reader_ahead : Stmt := inClass (topS 63) 1
theorem sc_Reader_ahead : FnScope ["self"] ["self"] (defScope s_Reader_ahead) := ⟨rfl, rfl, rfl, by decide +kernel, rfl, by decide +kernel, by decide +kernel⟩
def spAhead (K : Frag) : Sp := fun vs H Q _ => ∃ (H0 : Hp) (rd tl : Addr) (l : TkL) (k : Nat), vs = [.ref rd] ∧ RdS K H0 H rd tl l k ∧ ∀ e, l[k]? = some e → Q (.ref e.1) H
theorem ok_ahead (A : FnMt K (cA K "Reader") "ahead" "Reader.ahead" s_Reader_ahead ["self"]) (T : Txt K mg) : Dm P w K mg base CX0 1 (cA K "Reader") "ahead" ["self"] (spAhead K) := A.dm fun f fd F => by
  refine ok0 F sc_Reader_ahead (fun vs H Q E h => ?_) (fun cdv A outer s H vs Q E hr h => ?_)
  · obtain ⟨H0, rd, tl, l, k, rfl, _⟩ := h
    rfl
  obtain ⟨H0, rd, tl, l, k, rfl, S, q⟩ := h
  refine ⟨_, (pss_one (ps_ret (pe_ix ix_list (pe_fld (pv 0) rfl) (pe_fld (pv 0) rfl) (fun _ _ => rfl)))), ?_⟩
  obtain ⟨dx, hrd⟩ := S.hr
  obtain ⟨e, he, hv, tk, _⟩ := S.cur
  exact ⟨_, rfl, rd, _, dx, _, _, rfl, hrd, T.cl_Reader, T.na_Reader_tokens, lk_Reader_tokens, _, rfl, rd, _, dx, _, _, rfl, hrd, T.cl_Reader, T.na_Reader_at, lk_Reader_at, tl, _, _, _, rfl, rfl, .of S.ht, atI_nat hv, q e he⟩
abbrev s_Reader_fail : Stmt := inClass (topS 63) 2
theorem sc_Reader_fail : FnScope ["self", "code"] ["self", "code"] (defScope s_Reader_fail) := ⟨rfl, rfl, rfl, by decide +kernel, rfl, by decide +kernel, by decide +kernel⟩
def spFail (K : Frag) : Sp := fun vs H Q E => ∃ (H0 : Hp) (rd tl : Addr) (l : TkL) (k c : Nat), vs = [.ref rd, .int (c : Nat)] ∧ RdS K H0 H rd tl l k ∧ FauE K E H0 ⟨c, here (restT l k)⟩
theorem ok_fail (A : FnMt K (cA K "Reader") "fail" "Reader.fail" s_Reader_fail ["self", "code"]) (T : Txt K mg) (D_Fault : De P w K mg base 1 "Fault" (cA K "Fault") ["self", "code", "place"] (spEx (cA K "Fault") 2 xFault))
    (D_Reader_ahead : Dm P w K mg base CX0 1 (cA K "Reader") "ahead" ["self"] (spAhead K)) : Dm P w K mg base (L2.CX P w) 3 (cA K "Reader") "fail" ["self", "code"] (spFail K) := A.dm fun f fd F => by
  refine okX F sc_Reader_fail (fun vs H Q E h => ?_) (fun cdv A outer s H vs Q E hr h => ?_)
  · obtain ⟨H0, rd, tl, l, k, c, rfl, _⟩ := h
    rfl
  obtain ⟨H0, rd, tl, l, k, c, rfl, S, q⟩ := h
  refine ⟨_, (pss_one (ps_raise rfl (takes_of rfl rfl rfl rfl) (pmk_D T.ox_Fault D_Fault (hr.mono (by decide)) (by rfl) (pa_cons (pv 1) (pa_cons (pe_fldX (pe_m0 D_Reader_ahead T.cl_Reader (hr.mono (by decide)) pass0 (pv 0)) rfl) pa_nil))))), ?_⟩
  obtain ⟨dx, hrd⟩ := S.hr
  refine ⟨_, rfl, _, rfl, rd, dx, _, rfl, hrd, nl_Reader_ahead, H0, rd, tl, l, k, rfl, S, fun e he => ?_⟩
  obtain ⟨e', he', hv, ⟨dy, uk, ut, un, up, XI, r1, r2, r3, r4⟩, hrest, _⟩ := S.cur
  rw [he] at he'
  cases he'
  refine ⟨e.1, _, dy, _, up, _, rfl, XI, T.cl_Token, T.na_Token_place, tm_place, r4, mkF rfl (by decide) fun d H' s hd => ?_⟩
  rw [hrest] at q
  exact FauE.at S q s hd
abbrev s_Reader_is_word : Stmt := inClass (topS 63) 3
theorem sc_Reader_is_word : FnScope ["self", "word"] ["self", "word"] (defScope s_Reader_is_word) := ⟨rfl, rfl, rfl, by decide +kernel, rfl, by decide +kernel, by decide +kernel⟩
def spIsWord (K : Frag) : Sp := fun vs H Q _ => ∃ (H0 : Hp) (rd tl : Addr) (l : TkL) (k : Nat) (wd : Bytes), vs = [.ref rd, vS wd] ∧ RdS K H0 H rd tl l k ∧ Q (.bl (next (.name wd) (restT l k))) H
theorem ok_is_word (A : FnMt K (cA K "Reader") "is_word" "Reader.is_word" s_Reader_is_word ["self", "word"]) (T : Txt K mg)
    (D_Reader_ahead : Dm P w K mg base CX0 1 (cA K "Reader") "ahead" ["self"] (spAhead K)) : Dm P w K mg base CX0 2 (cA K "Reader") "is_word" ["self", "word"] (spIsWord K) := A.dm fun f fd F => by
  refine ok0 F sc_Reader_is_word (fun vs H Q E h => ?_) (fun cdv A outer s H vs Q E hr h => ?_)
  · obtain ⟨H0, rd, tl, l, k, wd, rfl, _⟩ := h
    rfl
  obtain ⟨H0, rd, tl, l, k, wd, rfl, S, q⟩ := h
  refine ⟨_, (pss_one (ps_ret (pe_and (pe_cmpR op_eq (pe_fldX (pe_m0 D_Reader_ahead T.cl_Reader (hr.mono (by decide)) pass0 (pv 0)) rfl) (pe_gint T.g_WORD) (nomark _)) (pe_one (pe_cmpR op_eq (pe_fldX (pe_m0 D_Reader_ahead T.cl_Reader (hr.mono (by decide)) pass0 (pv 0)) rfl) (pv 1) (nomark _)))))), ?_⟩
  obtain ⟨dx, hrd⟩ := S.hr
  obtain ⟨e', he', hv, ⟨dy, uk, ut, un, up, XI, r1, r2, r3, r4⟩, hrest, _⟩ := S.cur
  refine ⟨_, rfl, rd, dx, _, rfl, hrd, nl_Reader_ahead, H0, rd, tl, l, k, rfl, S, fun e he => ?_⟩
  obtain rfl := Option.some.inj (he.symm.trans he')
  refine ⟨e.1, _, dy, _, uk, _, rfl, XI, T.cl_Token, T.na_Token_kind, tm_kind, r1, ?_⟩
  rw [hrest, next_cons] at q
  have e0 : ∀ b : Bytes, decide (V.str (sOf b) = vS wd) = (b == wd) := fun b => by
    rw [vS_eq]
    by_cases c : b = wd
    · rw [decide_eq_true c, c, beq_self_eq_true]
    · rw [decide_eq_false c, beq_eq_false_iff_ne.mpr c]
  cases ht : e.2.1.tok with
  | name b =>
    rw [ht] at q r2
    refine ⟨rfl, _, rfl, if_yes rfl ?_⟩
    refine ⟨_, rfl, rd, dx, _, rfl, hrd, nl_Reader_ahead, H0, rd, tl, l, k, rfl, S, fun e2 he2 => ?_⟩
    obtain rfl := Option.some.inj (he.symm.trans he2)
    refine ⟨e.1, _, dy, _, ut, .str (sOf b), rfl, XI, T.cl_Token, T.na_Token_text, tm_text, ⟨_, r2⟩, _, rfl, rfl, ?_⟩
    rw [e0]
    exact q
  | num n =>
    rw [ht] at q
    exact ⟨rfl, _, rfl, if_no rfl q⟩
  | sign n =>
    rw [ht] at q
    exact ⟨rfl, _, rfl, if_no rfl q⟩
  | last =>
    rw [ht] at q
    exact ⟨rfl, _, rfl, if_no rfl q⟩
abbrev s_Reader_take : Stmt := inClass (topS 63) 4
theorem sc_Reader_take : FnScope ["self", "good"] ["self", "good"] (defScope s_Reader_take) := ⟨rfl, rfl, rfl, by decide +kernel, rfl, by decide +kernel, by decide +kernel⟩
def spTake (K : Frag) : Sp := fun vs H Q E => ∃ (H0 : Hp) (rd tl : Addr) (l : TkL) (k : Nat) (g : Bool), vs = [.ref rd, .bl g] ∧ RdS K H0 H rd tl l k ∧
  (g = true → (∀ e, l[k]? = some e → e.2.1.tok ≠ .last) ∧ ∀ e H', l[k]? = some e → Sbut rd H H' → RdS K H0 H' rd tl l (k + 1) → Q (.ref e.1) H') ∧ (g = false → FauE K E H0 ⟨3, here (restT l k)⟩)
theorem ok_take (A : FnMt K (cA K "Reader") "take" "Reader.take" s_Reader_take ["self", "good"]) (T : Txt K mg)
    (D_Reader_fail : Dm P w K mg base (L2.CX P w) 3 (cA K "Reader") "fail" ["self", "code"] (spFail K)) : Dm P w K mg base (L2.CX P w) 4 (cA K "Reader") "take" ["self", "good"] (spTake K) := A.dm fun f fd F => by
  refine okX F sc_Reader_take (fun vs H Q E h => ?_) (fun cdv A outer s H vs Q E hr h => ?_)
  · obtain ⟨H0, rd, tl, l, k, g, rfl, _⟩ := h
    rfl
  obtain ⟨H0, rd, tl, l, k, g, rfl, S, q1, q2⟩ := h
  refine ⟨_, (pss_cons (ps_if (pt_not (pt_val (pv 1)))
      (pss_one (ps_expr (pe_m D_Reader_fail T.cl_Reader (hr.mono (by decide)) (passes_call (takes_of rfl rfl rfl rfl) (fun _ _ _ _ h => h)) (pv 0) (pa_cons (pe_gint T.g_CANNOT_STAND) pa_nil))))
      pss_nil)
      (pss_cons (ps_fldaug (pv 0) pe_int in_add)
      (pss_one (ps_ret (pe_ix ix_list (pe_fld (pv 0) rfl) (pe_op op_sub (pe_fld (pv 0) rfl) pe_int) (fun _ _ => rfl)))))), ?_⟩
  obtain ⟨dx, hrd⟩ := S.hr
  obtain ⟨e, he, hv, tk, hrest, hlast⟩ := S.cur
  refine ⟨_, rfl, g, rfl, ?_⟩
  cases g with
  | false => exact if_yes rfl ⟨_, rfl, rd, dx, _, rfl, hrd, nl_Reader_fail, H0, rd, tl, l, k, 3, rfl, S, q2 rfl⟩
  | true =>
    obtain ⟨ne, q1⟩ := q1 rfl
    have kl := hlast (ne e he)
    refine if_no rfl ?_
    have hrd1 : (upd H rd (.ins (cA K "Reader") dx (F_Reader (.ref tl) (.int ((k + 1 : Nat) : Int))))) rd = _ := upd_same
    have sb : Sbut rd H (upd H rd (.ins (cA K "Reader") dx (F_Reader (.ref tl) (.int ((k + 1 : Nat) : Int))))) := (Sbut.refl rd H).upd
    have S1 := S.move sb ⟨dx, hrd1⟩ kl
    refine ⟨_, rfl, rd, _, dx, _, _, rfl, hrd, T.cl_Reader, T.na_Reader_at, lk_Reader_at, _, _, rfl, rfl, dx, _, hrd, len_Reader, ?_⟩
    rw [pt_Reader_at]
    refine ⟨_, rfl, rd, _, dx, _, _, rfl, upd_same, T.cl_Reader, T.na_Reader_tokens, lk_Reader_tokens, _, rfl, rd, _, dx, _, _, rfl, upd_same, T.cl_Reader, T.na_Reader_at, lk_Reader_at, _, _, rfl, rfl, tl, _, _, _, rfl, rfl, .of S1.ht, ?_, q1 e _ he sb S1⟩
    rw [show ((k : Int) + 1 - 1) = ((k : Nat) : Int) from by omega]
    exact atI_nat hv
abbrev s_Reader_take_word : Stmt := inClass (topS 63) 5
theorem sc_Reader_take_word : FnScope ["self", "word"] ["self", "word"] (defScope s_Reader_take_word) := ⟨rfl, rfl, rfl, by decide +kernel, rfl, by decide +kernel, by decide +kernel⟩
def spTakeWord (K : Frag) : Sp := fun vs H Q E => ∃ (H0 : Hp) (rd tl : Addr) (l : TkL) (k : Nat) (wd : Bytes), vs = [.ref rd, vS wd] ∧ RdS K H0 H rd tl l k ∧
  (next (.name wd) (restT l k) = true → ∀ e H', l[k]? = some e → Sbut rd H H' → RdS K H0 H' rd tl l (k + 1) → Q (.ref e.1) H') ∧ (next (.name wd) (restT l k) = false → FauE K E H0 ⟨3, here (restT l k)⟩)
theorem ok_take_word (A : FnMt K (cA K "Reader") "take_word" "Reader.take_word" s_Reader_take_word ["self", "word"]) (T : Txt K mg)
    (D_Reader_is_word : Dm P w K mg base CX0 2 (cA K "Reader") "is_word" ["self", "word"] (spIsWord K))
    (D_Reader_take : Dm P w K mg base (L2.CX P w) 4 (cA K "Reader") "take" ["self", "good"] (spTake K)) : Dm P w K mg base (L2.CX P w) 5 (cA K "Reader") "take_word" ["self", "word"] (spTakeWord K) := A.dm fun f fd F => by
  refine okX F sc_Reader_take_word (fun vs H Q E h => ?_) (fun cdv A outer s H vs Q E hr h => ?_)
  · obtain ⟨H0, rd, tl, l, k, wd, rfl, _⟩ := h
    rfl
  obtain ⟨H0, rd, tl, l, k, wd, rfl, S, q1, q2⟩ := h
  refine ⟨_, (pss_one (ps_ret (pe_m D_Reader_take T.cl_Reader (hr.mono (by decide)) (passes_call (takes_of rfl rfl rfl rfl) (fun _ _ _ _ h => h)) (pv 0) (pa_cons (pe_m D_Reader_is_word T.cl_Reader (hr.mono (by decide)) pass0 (pv 0) (pa_cons (pv 1) pa_nil)) pa_nil)))), ?_⟩
  obtain ⟨dx, hrd⟩ := S.hr
  refine ⟨_, rfl, rd, dx, _, rfl, hrd, nl_Reader_take, _, rfl, rd, dx, _, rfl, hrd, nl_Reader_is_word, _, rfl, H0, rd, tl, l, k, wd, rfl, S, H0, rd, tl, l, k, _, rfl, S, fun c => ⟨fun e he z => ?_, q1 c⟩, q2⟩
  rw [rest_at he, next_cons, z] at c
  cases c
abbrev s_Reader_take_number : Stmt := inClass (topS 63) 7
theorem sc_Reader_take_number : FnScope ["self", "low", "high"] ["self", "low", "high"] (defScope s_Reader_take_number) := ⟨rfl, rfl, rfl, by decide +kernel, rfl, by decide +kernel, by decide +kernel⟩
def spTakeNumber (K : Frag) : Sp := fun vs H Q E => ∃ (H0 : Hp) (rd tl : Addr) (l : TkL) (k lo hi : Nat), vs = [.ref rd, .int (lo : Nat), .int (hi : Nat)] ∧ RdS K H0 H rd tl l k ∧
  (∀ n, Vaseda.takeNum lo hi (restT l k) = .ok (n, restT l (k + 1)) → ∀ H', Sbut rd H H' → RdS K H0 H' rd tl l (k + 1) → Q (.int (n : Nat)) H') ∧ (∀ f, Vaseda.takeNum lo hi (restT l k) = .error f → FauE K E H0 f)
theorem ok_take_number (A : FnMt K (cA K "Reader") "take_number" "Reader.take_number" s_Reader_take_number ["self", "low", "high"]) (T : Txt K mg)
    (D_Reader_ahead : Dm P w K mg base CX0 1 (cA K "Reader") "ahead" ["self"] (spAhead K))
    (D_Reader_fail : Dm P w K mg base (L2.CX P w) 3 (cA K "Reader") "fail" ["self", "code"] (spFail K))
    (D_Reader_take : Dm P w K mg base (L2.CX P w) 4 (cA K "Reader") "take" ["self", "good"] (spTake K)) : Dm P w K mg base (L2.CX P w) 5 (cA K "Reader") "take_number" ["self", "low", "high"] (spTakeNumber K) := A.dm fun f fd F => by
  refine okX F sc_Reader_take_number (fun vs H Q E h => ?_) (fun cdv A outer s H vs Q E hr h => ?_)
  · obtain ⟨H0, rd, tl, l, k, lo, hi, rfl, _⟩ := h
    rfl
  obtain ⟨H0, rd, tl, l, k, lo, hi, rfl, S, q1, q2⟩ := h
  refine ⟨_, (pss_cons (ps_if (PW.pt (pw_and (pt_cmpR op_eq (pe_fldX (pe_m0 D_Reader_ahead T.cl_Reader (hr.mono (by decide)) pass0 (pv 0)) rfl) (pe_gint T.g_NUMBER) (nomark _)) (pw_and1 (pt_not (pt_chain op_le op_le (pv 1) (pe_fldX (pe_m0 D_Reader_ahead T.cl_Reader (hr.mono (by decide)) pass0 (pv 0)) rfl) (pv 2))))))
      (pss_one (ps_expr (pe_m D_Reader_fail T.cl_Reader (hr.mono (by decide)) (passes_call (takes_of rfl rfl rfl rfl) (fun _ _ _ _ h => h)) (pv 0) (pa_cons (pe_gint T.g_OUT_OF_BOUNDS) pa_nil))))
      pss_nil)
      (pss_one (ps_ret (pe_fldX (pe_m D_Reader_take T.cl_Reader (hr.mono (by decide)) (passes_call (takes_of rfl rfl rfl rfl) (fun _ _ _ _ h => h)) (pv 0) (pa_cons (pe_cmpR op_eq (pe_fldX (pe_m0 D_Reader_ahead T.cl_Reader (hr.mono (by decide)) pass0 (pv 0)) rfl) (pe_gint T.g_NUMBER) (nomark _)) pa_nil)) rfl)))), ?_⟩
  obtain ⟨dx, hrd⟩ := S.hr
  obtain ⟨e, he, hv, ⟨dy, uk, ut, un, up, XI, r1, r2, r3, r4⟩, hrest, hlast⟩ := S.cur
  refine ⟨_, rfl, rd, dx, _, rfl, hrd, nl_Reader_ahead, H0, rd, tl, l, k, rfl, S, fun e2 he2 => ?_⟩
  obtain rfl := Option.some.inj (he.symm.trans he2)
  refine ⟨e.1, _, dy, _, uk, _, rfl, XI, T.cl_Token, T.na_Token_kind, tm_kind, r1, rfl, _, rfl, ?_⟩
  have wrong : e.2.1.tok.ctorIdx ≠ 1 → Vaseda.takeNum lo hi (restT l k) = .error ⟨3, here (restT l k)⟩ := fun h => by
    rw [hrest]
    obtain ⟨a0, ⟨pl, tok⟩, t0⟩ := e
    cases tok with
    | num n => exact absurd rfl h
    | name b => rfl
    | sign n => rfl
    | last => rfl
  have fin : (∀ n, e.2.1.tok = .num n → lo ≤ n ∧ n ≤ hi) → tRet (tFldX K (tM (cA K (Str.ofString "Reader")) (Str.ofString "take") (spTake K) E (tVar 0)
        (tCons (tOp rEq (tFldX K (tM (cA K (Str.ofString "Reader")) (Str.ofString "ahead") (spAhead K) E0 (tVar 0) tNil) (Str.ofString "kind")) (tC (V.int 1))) tNil)) (Str.ofString "number"))
      { nx := fun x H' => Q V.non H', rt := Q } [some (V.ref rd), some (V.int (lo : Nat)), some (V.int (hi : Nat))] H := fun hb => by
    refine ⟨_, rfl, rd, dx, _, rfl, hrd, nl_Reader_take, _, rfl, rd, dx, _, rfl, hrd, nl_Reader_ahead, H0, rd, tl, l, k, rfl, S, fun e2 he2 => ?_⟩
    obtain rfl := Option.some.inj (he.symm.trans he2)
    refine ⟨e.1, _, dy, _, uk, _, rfl, XI, T.cl_Token, T.na_Token_kind, tm_kind, r1, rfl, H0, rd, tl, l, k, _, rfl, S, fun c => ⟨fun e2 he2 z => ?_, fun e2 H' he2 sb S1 => ?_⟩, fun c => ?_⟩
    · obtain rfl := Option.some.inj (he.symm.trans he2)
      rw [z] at c
      cases c
    · obtain rfl := Option.some.inj (he.symm.trans he2)
      obtain ⟨a0, ⟨pl, tok⟩, t0⟩ := e
      cases tok with
      | num n =>
        obtain ⟨dy', uk', ut', un', up', XI', r1', r2', r3', r4'⟩ := (S1.tk _ (List.mem_of_getElem? he))
        refine ⟨a0, _, dy', _, un', _, rfl, XI', T.cl_Token, T.na_Token_number, tm_number, r3', q1 n ?_ H' sb S1⟩
        rw [hrest]
        have := hb n rfl
        show (if n < lo ∨ hi < n then _ else _) = _
        rw [if_neg (by omega)]
      | name b => exact absurd (V.int.inj (of_decide_eq_true c)) (by show ¬ (0 : Int) = 1; decide)
      | sign n => exact absurd (V.int.inj (of_decide_eq_true c)) (by show ¬ (2 : Int) = 1; decide)
      | last => exact absurd (V.int.inj (of_decide_eq_true c)) (by show ¬ (3 : Int) = 1; decide)
    · refine q2 _ (wrong fun z => ?_)
      obtain ⟨a0, ⟨pl, tok⟩, t0⟩ := e
      cases tok with
      | num n => cases c
      | name b => cases z
      | sign n => cases z
      | last => cases z
  cases ht : e.2.1.tok with
  | num n =>
    refine if_yes rfl ?_
    refine ⟨_, rfl, _, rfl, rd, dx, _, rfl, hrd, nl_Reader_ahead, H0, rd, tl, l, k, rfl, S, fun e2 he2 => ?_⟩
    obtain rfl := Option.some.inj (he.symm.trans he2)
    rw [ht] at r3
    have en : nmOf (VasedBase.Tok.num n) = (n : Int) := rfl
    rw [en] at r3
    have out : (n < lo ∨ hi < n) → FauE K E H0 ⟨7, here (restT l k)⟩ := fun c => q2 _ (by
      rw [hrest]
      obtain ⟨a0, ⟨pl, tok⟩, t0⟩ := e
      cases ht
      exact if_pos c)
    refine ⟨e.1, _, dy, _, un, _, rfl, XI, T.cl_Token, T.na_Token_number, tm_number, r3, _, _, rfl, rfl, _, rfl, if_of (fun c => ?_) (fun c => ?_)⟩
    · have c := of_decide_eq_true c
      refine ⟨_, rfl, _, _, rfl, rfl, _, rfl, ?_⟩
      rcases Nat.lt_or_ge hi n with c2 | c2
      · refine if_yes (by rw [decide_eq_false (by omega)]; rfl) ?_
        exact ⟨_, rfl, rd, dx, _, rfl, hrd, nl_Reader_fail, H0, rd, tl, l, k, 7, rfl, S, out (.inr c2)⟩
      · refine if_no (by rw [decide_eq_true (by omega)]; rfl) (fin fun m z => ?_)
        rw [ht] at z
        cases z
        omega
    · have c := of_decide_eq_false c
      refine ⟨_, rfl, if_yes rfl ?_⟩
      exact ⟨_, rfl, rd, dx, _, rfl, hrd, nl_Reader_fail, H0, rd, tl, l, k, 7, rfl, S, out (.inl (by omega))⟩
  | name b => exact if_no rfl (fin fun n z => absurd (ht.symm.trans z) (fun z => nomatch z))
  | sign n => exact if_no rfl (fin fun n z => absurd (ht.symm.trans z) (fun z => nomatch z))
  | last => exact if_no rfl (fin fun n z => absurd (ht.symm.trans z) (fun z => nomatch z))
end
end Lp
end
section
set_option maxHeartbeats 4000000
/-! ### letters, addresses -/
namespace Lp
open PySem PySem.Spec PyProof.Rows L2
open PySem.W (Frag)
open VasedBase (Bytes word PTok Toks next nextWord here takeWord takeSign tokEq RESERVED)
section
variable {P : Program} {w : World} {K : Frag} {mg : Str → Option Value} {base : Heap}
abbrev s_Reader_take_letters : Stmt := inClass (topS 63) 6
theorem sc_Reader_take_letters : FnScope ["self"] ["self"] (defScope s_Reader_take_letters) := ⟨rfl, rfl, rfl, by decide +kernel, rfl, by decide +kernel, by decide +kernel⟩
def spTakeLetters (K : Frag) : Spc := fun vs H n Q E => ∃ (H0 : Hp) (rd tl : Addr) (l : TkL) (k : Nat), vs = [.ref rd] ∧ RdS K H0 H rd tl l k ∧
  (∀ e nb, l[k]? = some e → e.2.1.tok = .name nb → RESERVED.contains nb = false → ∀ H', Sbut rd H H' → RdS K H0 H' rd tl l (k + 1) → Q (.str (sOf nb) e.2.2) (vS nb) H' n) ∧
  ((∀ e nb, l[k]? = some e → e.2.1.tok = .name nb → RESERVED.contains nb = true) → FauE K E H0 ⟨3, here (restT l k)⟩)
theorem ok_take_letters (A : FnMt K (cA K "Reader") "take_letters" "Reader.take_letters" s_Reader_take_letters ["self"]) (T : Txt K mg)
    (D_Reader_ahead : Dm P w K mg base CX0 1 (cA K "Reader") "ahead" ["self"] (spAhead K))
    (D_Reader_take : Dm P w K mg base (L2.CX P w) 4 (cA K "Reader") "take" ["self", "good"] (spTake K)) : DmC P w K mg base (L2.CX P w) 5 (cA K "Reader") "take_letters" ["self"] (spTakeLetters K) := A.dmC fun f fd F => by
  refine okC F sc_Reader_take_letters (fun vs H n Q E h => ?_) (fun cdv A outer s H vs n Q E hr h => ?_)
  · obtain ⟨H0, rd, tl, l, k, rfl, _⟩ := h
    rfl
  obtain ⟨H0, rd, tl, l, k, rfl, S, q1, q2⟩ := h
  refine ⟨_, (pssc_ret (pec_fldX (pe_m D_Reader_take T.cl_Reader (hr.mono (by decide)) (passes_call (takes_of rfl rfl rfl rfl) (fun _ _ _ _ h => h)) (pv 0) (pa_cons (pe_and (pe_cmpR op_eq (pe_fldX (pe_m0 D_Reader_ahead T.cl_Reader (hr.mono (by decide)) pass0 (pv 0)) rfl) (pe_gint T.g_WORD) (nomark _)) (pe_one (pe_cmpR op_notIn_seq (pe_fldX (pe_m0 D_Reader_ahead T.cl_Reader (hr.mono (by decide)) pass0 (pv 0)) rfl) (pe_gref T.g_OWN_WORDS) (by rfl)))) pa_nil)) rfl)), ?_⟩
  obtain ⟨dx, hrd⟩ := S.hr
  obtain ⟨e, he, hv, ⟨dy, uk, ut, un, up, XI, r1, r2, r3, r4⟩, hrest, hlast⟩ := S.cur
  refine ⟨_, rfl, rd, dx, _, rfl, hrd, nl_Reader_take, _, rfl, rd, dx, _, rfl, hrd, nl_Reader_ahead, H0, rd, tl, l, k, rfl, S, fun e2 he2 => ?_⟩
  obtain rfl := Option.some.inj (he.symm.trans he2)
  refine ⟨e.1, _, dy, _, uk, _, rfl, XI, T.cl_Token, T.na_Token_kind, tm_kind, r1, rfl, _, rfl, ?_⟩
  have no : (∀ nb, e.2.1.tok ≠ .name nb) → FauE K E H0 ⟨3, here (restT l k)⟩ := fun h => q2 fun e2 nb he2 hn => by
    obtain rfl := Option.some.inj (he.symm.trans he2)
    exact absurd hn (h nb)
  cases ht : e.2.1.tok with
  | num n => exact if_no rfl ⟨H0, rd, tl, l, k, _, rfl, S, (fun c => nomatch c), fun _ => no fun nb z => nomatch ht.symm.trans z⟩
  | sign n => exact if_no rfl ⟨H0, rd, tl, l, k, _, rfl, S, (fun c => nomatch c), fun _ => no fun nb z => nomatch ht.symm.trans z⟩
  | last => exact if_no rfl ⟨H0, rd, tl, l, k, _, rfl, S, (fun c => nomatch c), fun _ => no fun nb z => nomatch ht.symm.trans z⟩
  | name nb =>
    rw [ht] at r2
    refine if_yes rfl ?_
    refine ⟨_, rfl, rd, dx, _, rfl, hrd, nl_Reader_ahead, H0, rd, tl, l, k, rfl, S, fun e2 he2 => ?_⟩
    obtain rfl := Option.some.inj (he.symm.trans he2)
    refine ⟨e.1, _, dy, _, ut, .str (sOf nb), rfl, XI, T.cl_Token, T.na_Token_text, tm_text, ⟨_, r2⟩, cA K "OWN_WORDS", _, rfl, .inr (own_words T _), rfl, by decide +kernel, ?_⟩
    rw [show (if true = true then !inV (V.str (sOf nb)) (RESERVED.map fun x => vS x) else inV (V.str (sOf nb)) (RESERVED.map fun x => vS x)) = !RESERVED.contains nb from congrArg (! ·) (inV_map nb RESERVED)]
    refine ⟨H0, rd, tl, l, k, _, rfl, S, fun c => ⟨fun e2 he2 z => ?_, fun e2 H' he2 sb S1 => ?_⟩, fun c => q2 fun e2 nb2 he2 hn => ?_⟩
    · obtain rfl := Option.some.inj (he.symm.trans he2)
      exact nomatch ht.symm.trans z
    · obtain rfl := Option.some.inj (he.symm.trans he2)
      obtain ⟨dy', uk', ut', un', up', XI', r1', r2', r3', r4'⟩ := (S1.tk _ (List.mem_of_getElem? he))
      rw [ht] at r2'
      subst r2'
      refine ⟨e.1, _, dy', _, _, .str (sOf nb), rfl, XI', T.cl_Token, T.na_Token_text, tm_text, ⟨_, rfl⟩, q1 e nb he ht ?_ H' sb S1⟩
      simpa using c
    · obtain rfl := Option.some.inj (he.symm.trans he2)
      rw [ht] at hn
      cases hn
      simpa using c
theorem letters_ok {l : TkL} {k : Nat} {e : _} {nb : Bytes} (he : l[k]? = some e) (ht : e.2.1.tok = .name nb) (hc : RESERVED.contains nb = false) : Vaseda.takeLetters (restT l k) = .ok (nb, restT l (k + 1)) := by
  rw [rest_at he]
  obtain ⟨a0, ⟨pl, tok⟩, t0⟩ := e
  cases ht
  unfold Vaseda.takeLetters VasedBase.takeName
  dsimp only
  rw [if_neg (by rw [hc]; exact Bool.false_ne_true)]
  rfl
theorem letters_no {l : TkL} {k : Nat} {e : _} (he : l[k]? = some e) (h : ∀ nb, e.2.1.tok = .name nb → RESERVED.contains nb = true) : Vaseda.takeLetters (restT l k) = .error ⟨3, here (restT l k)⟩ := by
  rw [rest_at he]
  obtain ⟨a0, ⟨pl, tok⟩, t0⟩ := e
  cases tok with
  | name nb =>
    unfold Vaseda.takeLetters VasedBase.takeName
    dsimp only
    rw [if_pos (h nb rfl)]
    rfl
  | num n => rfl
  | sign n => rfl
  | last => rfl
abbrev s_read_nots : Stmt := topS 64
theorem sc_read_nots : FnScope ["reader", "found"] ["reader"] (defScope s_read_nots) := ⟨rfl, rfl, rfl, by decide +kernel, rfl, by decide +kernel, by decide +kernel⟩
def spNots (K : Frag) : Sp := fun vs H Q E => ∃ (H0 : Hp) (rd tl : Addr) (l : TkL) (k f : Nat), vs = [.ref rd] ∧ RdS K H0 H rd tl l k ∧ l.length < f + k ∧
  (∀ j k' H', Vaseda.takeAddr f 0 (restT l k) = (plainAddr (restT l k')).map (fun x => (nt j x.1, x.2)) → j ≤ 3 → k ≤ k' → Sbut rd H H' → RdS K H0 H' rd tl l k' → Q (.int (j : Nat)) H') ∧ (∀ x, Vaseda.takeAddr f 0 (restT l k) = .error x → FauE K E H0 x)
theorem ok_read_nots (A : FnAt K mg "read_nots" s_read_nots ["reader"]) (T : Txt K mg)
    (D_Reader_is_word : Dm P w K mg base CX0 2 (cA K "Reader") "is_word" ["self", "word"] (spIsWord K))
    (D_Reader_fail : Dm P w K mg base (L2.CX P w) 3 (cA K "Reader") "fail" ["self", "code"] (spFail K))
    (D_Reader_take_word : Dm P w K mg base (L2.CX P w) 5 (cA K "Reader") "take_word" ["self", "word"] (spTakeWord K)) : Dn P w K mg base (L2.CX P w) 6 "read_nots" ["reader"] (spNots K) := A.dn fun f fd F => by
  refine okX F sc_read_nots (fun vs H Q E h => ?_) (fun cdv A outer s H vs Q E hr h => ?_)
  · obtain ⟨H0, rd, tl, l, k, f, rfl, _⟩ := h
    rfl
  obtain ⟨H0, rd, tl, l, k, f, rfl, S, hf, q1, q2⟩ := h
  refine ⟨_, (pss_cons (ps_set (i := 1) sc_read_nots.nd rfl (Or.inl rfl) pe_int)
      (pss_cons (ps_while (passes_of rfl) (pt_val (pe_m D_Reader_is_word T.cl_Reader (hr.mono (by decide)) pass0 (pv 0) (pa_cons pe_str pa_nil)))
      (pss_cons (ps_if (pt_cmpR op_eq (pv 1) (pe_gint T.g_MOST_NOTS) (nomark _))
      (pss_one (ps_expr (pe_m D_Reader_fail T.cl_Reader (hr.mono (by decide)) (passes_call (takes_of rfl rfl rfl rfl) (fun _ _ _ _ h => h)) (pv 0) (pa_cons (pe_gint T.g_TOO_MANY) pa_nil))))
      pss_nil)
      (pss_cons (ps_expr (pe_m D_Reader_take_word T.cl_Reader (hr.mono (by decide)) (passes_call (takes_of rfl rfl rfl rfl) (fun _ _ _ _ h => h)) (pv 0) (pa_cons pe_str pa_nil)))
      (pss_one (ps_aug (i := 1) sc_read_nots.nd rfl (.inl rfl) pe_int ip_add)))))
      (pss_one (ps_ret (pv 1))))), ?_⟩
  refine ⟨fun m σ H' => ∃ j k' g : Nat, m = g ∧ σ = [some (.ref rd), some (.int (j : Nat))] ∧ j ≤ 3 ∧ k ≤ k' ∧ l.length < g + k' ∧ Sbut rd H H' ∧ RdS K H0 H' rd tl l k' ∧
    Vaseda.takeAddr f 0 (restT l k) = (Vaseda.takeAddr g j (restT l k')).map (fun x => (nt j x.1, x.2)), ⟨f, 0, k, f, rfl, rfl, Nat.zero_le _, Nat.le_refl _, hf, Sbut.refl rd H, S, ?_⟩, ?_⟩
  · cases Vaseda.takeAddr f 0 (restT l k) <;> rfl
  rintro m σ H' ⟨j, k', g, rfl, rfl, hj, hk, hg, sb, S', eq⟩
  obtain ⟨dx, hrd⟩ := S'.hr
  obtain ⟨e, he, hv, tk, hrest, hlast⟩ := S'.cur
  obtain ⟨g, rfl⟩ : ∃ g', m = g' + 1 := ⟨m - 1, by have := S'.kl; omega⟩
  refine ⟨_, rfl, rd, dx, _, rfl, hrd, nl_Reader_is_word, H0, rd, tl, l, k', word "not", rfl, S', _, rfl, ?_⟩
  refine if_of (fun c => ⟨_, fun _ _ z => z, ?_⟩) (fun c => ?_)
  · rw [hrest, addr_not (by rw [← hrest]; exact c)] at eq
    refine ⟨_, rfl, rfl, _, rfl, ?_⟩
    by_cases c3 : j = 3
    · subst c3
      refine if_yes rfl ⟨_, rfl, rd, dx, _, rfl, hrd, nl_Reader_fail, H0, rd, tl, l, k', 4, rfl, S', q2 _ ?_⟩
      rw [eq, if_pos (Nat.le_refl _), hrest]
      rfl
    · have c3' : ¬ 3 ≤ j := by omega
      rw [if_neg c3'] at eq
      refine if_no (decide_eq_false fun z => c3 (by have := V.int.inj z; omega)) ?_
      refine ⟨_, rfl, rd, dx, _, rfl, hrd, nl_Reader_take_word, H0, rd, tl, l, k', word "not", rfl, S', fun _ e2 H2 he2 sb2 S2 => ?_, fun z => absurd (z.symm.trans c) Bool.false_ne_true⟩
      refine ⟨_, rfl, _, _, rfl, rfl, g, Nat.lt_succ_self _, j + 1, k' + 1, g, rfl, rfl, by omega, by omega, by omega, sb.trans sb2, S2, ?_⟩
      rw [eq]
      cases Vaseda.takeAddr g (j + 1) (restT l (k' + 1)) with
      | error x => rfl
      | ok x =>
        show Except.ok (nt j (.not x.1), x.2) = Except.ok (nt (j + 1) x.1, x.2)
        rw [nt_not]
  · rw [addr_plain c] at eq
    exact ⟨_, rfl, q1 j k' H' eq hj hk sb S'⟩
end
end Lp
end
section
set_option maxHeartbeats 4000000
/-! ### a plain address, an address -/
namespace Lp
open PySem PySem.Spec PyProof.Rows L2
open PySem.W (Frag)
open VasedBase (Bytes word PTok Toks next nextWord here takeWord takeSign tokEq RESERVED)
section
variable {P : Program} {w : World} {K : Frag} {mg : Str → Option Value} {base : Heap}
theorem FnC.std {CX : CXT} {k : Nat} {f : Addr} {fd : FuncData} {ps : List Str} {sp : Spc} (F : FnC P w K mg base CX k f fd ps sp) : FnOk P w K mg base CX k f fd ps (fun vs H Q E => sp vs H 0 (fun _ v H' _ => Q v H') E) := by
  refine ⟨fun vs H Q E h => F.len _ _ _ _ _ h, fun A outer s H args us vs Q E hr e0 hb r h => codeAny_mono (F.run A outer s H args us vs 0 _ E hr e0 hb r (Nat.zero_le _) h) fun r s' hq => ?_⟩
  cases r with
  | error e => exact hq
  | ok fl =>
    cases fl with
    | ret u =>
      obtain ⟨v, H', n, os, bare, un, hok, rv, k, q⟩ := hq
      exact ⟨v, H', os, bare, un, hok, rv, q⟩
    | next => exact hq
    | brk => exact hq
    | cont => exact hq
theorem DmC.std {CX : CXT} {k : Nat} {C : Addr} {m : Str} {ps : List Str} {sp : Spc} (D : DmC P w K mg base CX k C m ps sp) : Dm P w K mg base CX k C m ps (fun vs H Q E => sp vs H 0 (fun _ v H' _ => Q v H') E) := by
  obtain ⟨f, fd, h1, h2, h3⟩ := D.ex
  exact ⟨f, fd, h1, h2, h3.std⟩
def spTakeLettersS (K : Frag) : Sp := fun vs H Q E => spTakeLetters K vs H 0 (fun _ v H' _ => Q v H') E
theorem freshS_sbut {H0 H H' : Hp} {rd : Addr} (sb : Sbut rd H H') : Sbut rd (freshS H0 H) (freshS H0 H') := fun b o e n => by
  unfold freshS at e ⊢
  cases h : H0 b with
  | none =>
    rw [h] at e
    exact sb b o e n
  | some u =>
    rw [h] at e
    cases e
theorem fresh_none {H0 H : Hp} {x : Addr} (s : Same H0 H) (h : H x = none) : H0 x = none := by
  cases e : H0 x with
  | none => rfl
  | some o =>
    rw [s _ _ e] at h
    cases h
theorem w_str (s : String) (h : Str.ofString s = sOf (word s) := by decide +kernel) : V.str (Str.ofString s) = vS (word s) := by rw [h]
theorem w_nil : V.str (Str.ofString "") = vS [] := by decide +kernel
abbrev s_read_plain_address : Stmt := topS 65
theorem sc_read_plain_address : FnScope ["reader", "token", "number", "low"] ["reader"] (defScope s_read_plain_address) := ⟨rfl, rfl, rfl, by decide +kernel, rfl, by decide +kernel, by decide +kernel⟩
def spPlain (K : Frag) : Sp := fun vs H Q E => ∃ (H0 : Hp) (rd tl : Addr) (l : TkL) (k : Nat), vs = [.ref rd] ∧ RdS K H0 H rd tl l k ∧
  (∀ a k' x H', plainAddr (restT l k) = .ok (a, restT l k') → adNots a = 0 → k ≤ k' → Sbut rd H H' → RdS K H0 H' rd tl l k' → H x = none → AdAt K (freshS H0 H') x a → Q (.ref x) H') ∧ (∀ f, plainAddr (restT l k) = .error f → FauE K E H0 f)
theorem next_name {p : PTok} {r : Toks} {nb wd : Bytes} (h : p.tok = .name nb) : next (.name wd) (p :: r) = (nb == wd) := by
  rw [next_cons, h]
  rfl
theorem next_no {p : PTok} {r : Toks} {wd : Bytes} (h : ∀ nb, p.tok ≠ .name nb) : next (.name wd) (p :: r) = false := by
  rw [next_cons]
  cases e : tokEq p.tok (.name wd) with
  | false => rfl
  | true => exact absurd (tokEq_name.mp e) (h wd)
theorem plain_wrong {p : PTok} {r : Toks} (h : ∀ nb, p.tok = .name nb → ([word "all", word "line", word "from", word "last", word "has", word "is"] : List Bytes).contains nb = false) : plainAddr (p :: r) = .error ⟨3, p.place⟩ := by
  have no : ∀ s, s ∈ ["all", "line", "from", "last", "has", "is"] → nextWord s (p :: r) = false := fun s hs => by
    cases e : nextWord s (p :: r) with
    | false => rfl
    | true =>
      have q := h _ (tokEq_name.mp e)
      have : ([word "all", word "line", word "from", word "last", word "has", word "is"] : List Bytes).contains (word s) = true := by
        have := List.mem_map_of_mem (f := word) hs
        exact List.contains_iff_mem.mpr this
      rw [this] at q
      cases q
  unfold plainAddr
  simp only [no "all" (by simp), no "line" (by simp), no "from" (by simp), no "last" (by simp), no "has" (by simp), no "is" (by simp), Bool.false_eq_true, if_false]
  rfl
theorem ok_plain (A : FnAt K mg "read_plain_address" s_read_plain_address ["reader"]) (T : Txt K mg)
    (D_Reader_ahead : Dm P w K mg base CX0 1 (cA K "Reader") "ahead" ["self"] (spAhead K))
    (D_Reader_take : Dm P w K mg base (L2.CX P w) 4 (cA K "Reader") "take" ["self", "good"] (spTake K))
    (D_Reader_take_word : Dm P w K mg base (L2.CX P w) 5 (cA K "Reader") "take_word" ["self", "word"] (spTakeWord K))
    (D_Reader_take_number : Dm P w K mg base (L2.CX P w) 5 (cA K "Reader") "take_number" ["self", "low", "high"] (spTakeNumber K))
    (D_Reader_take_letters : Dm P w K mg base (L2.CX P w) 5 (cA K "Reader") "take_letters" ["self"] (spTakeLettersS K))
    (D_Address : Dc P w K mg base 1 "Address" (cA K "Address") ["self", "word", "letters", "low", "high"] (spNewAddress K)) : Dn P w K mg base (L2.CX P w) 6 "read_plain_address" ["reader"] (spPlain K) := A.dn fun f fd F => by
  refine okX F sc_read_plain_address (fun vs H Q E h => ?_) (fun cdv A outer s H vs Q E hr h => ?_)
  · obtain ⟨H0, rd, tl, l, k, rfl, _⟩ := h
    rfl
  obtain ⟨H0, rd, tl, l, k, rfl, S, q1, q2⟩ := h
  refine ⟨_, (pss_cons (ps_set (i := 1) sc_read_plain_address.nd rfl (Or.inl rfl) (pe_m D_Reader_take T.cl_Reader (hr.mono (by decide)) (passes_call (takes_of rfl rfl rfl rfl) (fun _ _ _ _ h => h)) (pv 0) (pa_cons (pe_and (pe_cmpR op_eq (pe_fldX (pe_m0 D_Reader_ahead T.cl_Reader (hr.mono (by decide)) pass0 (pv 0)) rfl) (pe_gint T.g_WORD) (nomark _)) (pe_one (pe_cmpR op_in_seq (pe_fldX (pe_m0 D_Reader_ahead T.cl_Reader (hr.mono (by decide)) pass0 (pv 0)) rfl) (pe_gref T.g_ADDRESSES) (by rfl)))) pa_nil)))
      (pss_cons (ps_if (pt_cmpR op_eq (pe_fldX (pv 1) rfl) pe_str (nomark _))
      (pss_cons (ps_set (i := 2) sc_read_plain_address.nd rfl (Or.inl rfl) (pe_m D_Reader_take_number T.cl_Reader (hr.mono (by decide)) (passes_call (takes_of rfl rfl rfl rfl) (fun _ _ _ _ h => h)) (pv 0) (pa_cons pe_int (pa_cons (pe_gint T.g_MOST_LINE) pa_nil))))
      (pss_one (ps_ret (pe_c D_Address (hr.mono (by decide)) (pa_cons pe_str (pa_cons pe_str (pa_cons (pv 2) (pa_cons (pv 2) pa_nil))))))))
      pss_nil)
      (pss_cons (ps_if (pt_cmpR op_eq (pe_fldX (pv 1) rfl) pe_str (nomark _))
      (pss_cons (ps_set (i := 3) sc_read_plain_address.nd rfl (Or.inl rfl) (pe_m D_Reader_take_number T.cl_Reader (hr.mono (by decide)) (passes_call (takes_of rfl rfl rfl rfl) (fun _ _ _ _ h => h)) (pv 0) (pa_cons pe_int (pa_cons (pe_gint T.g_MOST_LINE) pa_nil))))
      (pss_cons (ps_expr (pe_m D_Reader_take_word T.cl_Reader (hr.mono (by decide)) (passes_call (takes_of rfl rfl rfl rfl) (fun _ _ _ _ h => h)) (pv 0) (pa_cons pe_str pa_nil)))
      (pss_one (ps_ret (pe_c D_Address (hr.mono (by decide)) (pa_cons pe_str (pa_cons pe_str (pa_cons (pv 3) (pa_cons (pe_m D_Reader_take_number T.cl_Reader (hr.mono (by decide)) (passes_call (takes_of rfl rfl rfl rfl) (fun _ _ _ _ h => h)) (pv 0) (pa_cons (pv 3) (pa_cons (pe_gint T.g_MOST_LINE) pa_nil))) pa_nil)))))))))
      pss_nil)
      (pss_cons (ps_if (pt_cmpR op_in_seq (pe_fldX (pv 1) rfl) (pe_tup (pa_cons pe_str (pa_cons pe_str pa_nil))) (by rfl))
      (pss_one (ps_ret (pe_c D_Address (hr.mono (by decide)) (pa_cons (pe_fldX (pv 1) rfl) (pa_cons (pe_m0 D_Reader_take_letters T.cl_Reader (hr.mono (by decide)) (passes_call (takes_of rfl rfl rfl rfl) (fun _ _ _ _ h => h)) (pv 0)) (pa_cons pe_int (pa_cons pe_int pa_nil)))))))
      pss_nil)
      (pss_one (ps_ret (pe_c D_Address (hr.mono (by decide)) (pa_cons (pe_fldX (pv 1) rfl) (pa_cons pe_str (pa_cons pe_int (pa_cons pe_int pa_nil))))))))))), ?_⟩
  have mk : ∀ (a : Vaseda.Addr) (k' : Nat) (H2 : Hp) (vs : List V), k ≤ k' → Sbut rd H H2 → RdS K H0 H2 rd tl l k' → plainAddr (restT l k) = .ok (a, restT l k') → adNots a = 0 → vs = [vS (adBase a).1, vS (adBase a).2.1, .int ((adBase a).2.2.1 : Nat), .int ((adBase a).2.2.2 : Nat)] →
      ∀ x dx, H2 x = none → H2 dx = none → dx ≠ x → spNewAddress K (.ref x :: vs) (upd (upd H2 dx (.own x)) x (.ins (cA K "Address") dx [])) (fun v H3 => v = .non ∧ Q (.ref x) H3) E0 := fun a k' H2 vs hk sb S2 eq an ev x dx hx hdx hne => by
    subst ev
    refine ⟨x, dx, _, _, _, _, rfl, upd_same, fun H3 sb3 h3 => ⟨rfl, ?_⟩⟩
    have s3 : Same H2 H3 := Same.but hx hdx sb3
    have hx0 : H x = none := by
      cases e : H x with
      | none => rfl
      | some o =>
        by_cases z : x = rd
        · obtain ⟨d2, h2⟩ := S2.hr
          rw [← z, hx] at h2
          cases h2
        · rw [sb _ _ e z] at hx
          cases hx
    refine q1 a k' x H3 eq an hk (sb.trans (Sbut.of s3)) (S2.same s3) hx0 ⟨dx, ?_⟩
    rw [an]
    exact fresh_get (fresh_none S.s0 hx0) h3
  obtain ⟨dx, hrd⟩ := S.hr
  obtain ⟨e, he, hv, ⟨dy, uk, ut, un, up, XI, r1, r2, r3, r4⟩, hrest, hlast⟩ := S.cur
  refine ⟨_, rfl, rd, dx, _, rfl, hrd, nl_Reader_take, _, rfl, rd, dx, _, rfl, hrd, nl_Reader_ahead, H0, rd, tl, l, k, rfl, S, fun e2 he2 => ?_⟩
  obtain rfl := Option.some.inj (he.symm.trans he2)
  refine ⟨e.1, _, dy, _, uk, _, rfl, XI, T.cl_Token, T.na_Token_kind, tm_kind, r1, rfl, _, rfl, ?_⟩
  have no : (∀ nb, e.2.1.tok ≠ .name nb) → FauE K E H0 ⟨3, here (restT l k)⟩ := fun h => q2 _ (by
    rw [hrest]
    exact plain_wrong fun nb z => absurd z (h nb))
  cases ht : e.2.1.tok with
  | num n => exact if_no rfl ⟨H0, rd, tl, l, k, _, rfl, S, (fun c => nomatch c), fun _ => no fun nb z => nomatch ht.symm.trans z⟩
  | sign n => exact if_no rfl ⟨H0, rd, tl, l, k, _, rfl, S, (fun c => nomatch c), fun _ => no fun nb z => nomatch ht.symm.trans z⟩
  | last => exact if_no rfl ⟨H0, rd, tl, l, k, _, rfl, S, (fun c => nomatch c), fun _ => no fun nb z => nomatch ht.symm.trans z⟩
  | name nb =>
    rw [ht] at r2
    refine if_yes rfl ?_
    refine ⟨_, rfl, rd, dx, _, rfl, hrd, nl_Reader_ahead, H0, rd, tl, l, k, rfl, S, fun e2 he2 => ?_⟩
    obtain rfl := Option.some.inj (he.symm.trans he2)
    refine ⟨e.1, _, dy, _, ut, .str (sOf nb), rfl, XI, T.cl_Token, T.na_Token_text, tm_text, ⟨_, r2⟩, cA K "ADDRESSES", _, rfl, .inr (T.tt_ADDRESSES _), rfl, by decide +kernel, ?_⟩
    rw [show (if false = true then !inV (V.str (sOf nb)) [.str "all", .str "line", .str "from", .str "last", .str "has", .str "is"] else inV (V.str (sOf nb)) [.str "all", .str "line", .str "from", .str "last", .str "has", .str "is"]) = ([word "all", word "line", word "from", word "last", word "has", word "is"] : List Bytes).contains nb from inV_map nb [word "all", word "line", word "from", word "last", word "has", word "is"]]
    refine ⟨H0, rd, tl, l, k, _, rfl, S, fun c => ⟨fun e2 he2 z => ?_, fun e2 H1 he2 sb1 S1 => ?_⟩, fun c => q2 _ ?_⟩
    · obtain rfl := Option.some.inj (he.symm.trans he2)
      exact nomatch ht.symm.trans z
    · obtain rfl := Option.some.inj (he.symm.trans he2)
      obtain ⟨dx1, hrd1⟩ := S1.hr
      obtain ⟨dy', uk', ut', un', up', XI', r1', r2', r3', r4'⟩ := (S1.tk _ (List.mem_of_getElem? he))
      rw [ht] at r2'
      subst r2'
      have nx : ∀ s, nextWord s (restT l k) = (nb == word s) := fun s => by rw [hrest]; exact next_name ht
      have dr : (restT l k).drop 1 = restT l (k + 1) := by rw [hrest]; rfl
      have cs : nb = word "all" ∨ nb = word "line" ∨ nb = word "from" ∨ nb = word "last" ∨ nb = word "has" ∨ nb = word "is" := by
        have := List.contains_iff_mem.mp c
        simpa using this
      rcases cs with rfl | rfl | rfl | rfl | rfl | rfl
      · refine ⟨_, rfl, e.1, _, dy', _, _, .str (sOf (word "all")), rfl, XI', T.cl_Token, T.na_Token_text, tm_text, ⟨_, rfl⟩, rfl, _, rfl, if_no (show decide (vS (word "all") = V.str (Str.ofString "line")) = false by decide +kernel) ?_⟩
        refine ⟨_, rfl, e.1, _, dy', _, _, .str (sOf (word "all")), rfl, XI', T.cl_Token, T.na_Token_text, tm_text, ⟨_, rfl⟩, rfl, _, rfl, if_no (show decide (vS (word "all") = V.str (Str.ofString "from")) = false by decide +kernel) ?_⟩
        refine ⟨_, rfl, e.1, _, dy', _, _, .str (sOf (word "all")), rfl, XI', T.cl_Token, T.na_Token_text, tm_text, ⟨_, rfl⟩, by show 2 ≤ sizeLine; decide, fun p hp => ⟨p, _, rfl, .inr (.of upd_same), rfl, rfl, _, rfl, if_no (show inV (vS (word "all")) [V.str (Str.ofString "has"), V.str (Str.ofString "is")] = false by decide +kernel) ?_⟩⟩
        have sp := (Same.refl H1).new (o := .tup [V.str (Str.ofString "has"), V.str (Str.ofString "is")]) hp
        have S2 := S1.same sp
        have pl : plainAddr (restT l k) = .ok (.all, restT l (k + 1)) := by
          unfold plainAddr
          simp only [nx, dr]
          rfl
        exact ⟨_, rfl, e.1, _, dy', _, _, .str (sOf (word "all")), rfl, (XI'.mono sp), T.cl_Token, T.na_Token_text, tm_text, ⟨_, rfl⟩, mk .all (k + 1) _ _ (by omega) (sb1.trans (Sbut.of sp)) S2 pl rfl (by rw [w_nil]; rfl)⟩
      · refine ⟨_, rfl, e.1, _, dy', _, _, .str (sOf (word "line")), rfl, XI', T.cl_Token, T.na_Token_text, tm_text, ⟨_, rfl⟩, rfl, _, rfl, if_yes (show decide (vS (word "line") = V.str (Str.ofString "line")) = true by decide +kernel) ?_⟩
        have pl : plainAddr (restT l k) = (Vaseda.takeNum 1 99 (restT l (k + 1))).map fun x => (.line x.1, x.2) := by
          unfold plainAddr
          simp only [nx, dr]
          rfl
        refine ⟨_, rfl, rd, dx1, _, rfl, hrd1, nl_Reader_take_number, H0, rd, tl, l, k + 1, 1, 99, rfl, S1, fun n hn H2 sb2 S2 => ?_, fun f hf => q2 f (by rw [pl, hf]; rfl)⟩
        exact ⟨_, rfl, _, rfl, mk (.line n) (k + 2) _ _ (by omega) (sb1.trans sb2) S2 (by rw [pl, hn]; rfl) rfl (by rw [w_str "from", w_nil]; rfl)⟩
      · refine ⟨_, rfl, e.1, _, dy', _, _, .str (sOf (word "from")), rfl, XI', T.cl_Token, T.na_Token_text, tm_text, ⟨_, rfl⟩, rfl, _, rfl, if_no (show decide (vS (word "from") = V.str (Str.ofString "line")) = false by decide +kernel) ?_⟩
        refine ⟨_, rfl, e.1, _, dy', _, _, .str (sOf (word "from")), rfl, XI', T.cl_Token, T.na_Token_text, tm_text, ⟨_, rfl⟩, rfl, _, rfl, if_yes (show decide (vS (word "from") = V.str (Str.ofString "from")) = true by decide +kernel) ?_⟩
        have pl : plainAddr (restT l k) = (Vaseda.takeNum 1 99 (restT l (k + 1))).bind fun x => (takeWord "to" x.2).bind fun l => (Vaseda.takeNum x.1 99 l).map fun y => (.span x.1 y.1, y.2) := by
          unfold plainAddr
          simp only [nx, dr]
          rfl
        refine ⟨_, rfl, rd, dx1, _, rfl, hrd1, nl_Reader_take_number, H0, rd, tl, l, k + 1, 1, 99, rfl, S1, fun n hn H2 sb2 S2 => ?_, fun f hf => q2 f (by rw [pl, hf]; rfl)⟩
        obtain ⟨dx2, hrd2⟩ := S2.hr
        obtain ⟨e2, he2, _, _, hrest2, _⟩ := S2.cur
        refine ⟨_, rfl, rd, dx2, _, rfl, hrd2, nl_Reader_take_word, H0, rd, tl, l, k + 2, word "to", rfl, S2, fun c2 e3 H3 he3 sb3 S3 => ?_, fun c2 => q2 _ ?_⟩
        · obtain ⟨dx3, hrd3⟩ := S3.hr
          have tw : takeWord "to" (restT l (k + 1 + 1)) = .ok (restT l (k + 3)) := by
            unfold VasedBase.takeWord VasedBase.taken
            rw [if_pos c2, hrest2]
            rfl
          refine ⟨_, rfl, _, rfl, rd, dx3, _, rfl, hrd3, nl_Reader_take_number, _, rfl, H0, rd, tl, l, k + 3, n, 99, rfl, S3, fun m hm H4 sb4 S4 => ?_, fun f hf => q2 f ?_⟩
          · exact mk (.span n m) (k + 4) _ _ (by omega) ((sb1.trans sb2).trans (sb3.trans sb4)) S4 (by rw [pl, hn]; show ((takeWord "to" (restT l (k + 1 + 1))).bind fun l => (Vaseda.takeNum n 99 l).map fun y => (Vaseda.Addr.span n y.1, y.2)) = _; rw [tw]; show ((Vaseda.takeNum n 99 (restT l (k + 3))).map fun y => (Vaseda.Addr.span n y.1, y.2)) = _; rw [hm]; rfl) rfl (by rw [w_str "from", w_nil]; rfl)
          · rw [pl, hn]
            show ((takeWord "to" (restT l (k + 1 + 1))).bind fun l => (Vaseda.takeNum n 99 l).map fun y => (Vaseda.Addr.span n y.1, y.2)) = _
            rw [tw]
            show ((Vaseda.takeNum n 99 (restT l (k + 3))).map fun y => (Vaseda.Addr.span n y.1, y.2)) = _
            rw [hf]
            rfl
        · rw [pl, hn]
          show ((takeWord "to" (restT l (k + 1 + 1))).bind fun l => (Vaseda.takeNum n 99 l).map fun y => (Vaseda.Addr.span n y.1, y.2)) = _
          unfold VasedBase.takeWord VasedBase.taken
          rw [if_neg (by rw [c2]; exact Bool.false_ne_true)]
          rfl
      · refine ⟨_, rfl, e.1, _, dy', _, _, .str (sOf (word "last")), rfl, XI', T.cl_Token, T.na_Token_text, tm_text, ⟨_, rfl⟩, rfl, _, rfl, if_no (show decide (vS (word "last") = V.str (Str.ofString "line")) = false by decide +kernel) ?_⟩
        refine ⟨_, rfl, e.1, _, dy', _, _, .str (sOf (word "last")), rfl, XI', T.cl_Token, T.na_Token_text, tm_text, ⟨_, rfl⟩, rfl, _, rfl, if_no (show decide (vS (word "last") = V.str (Str.ofString "from")) = false by decide +kernel) ?_⟩
        refine ⟨_, rfl, e.1, _, dy', _, _, .str (sOf (word "last")), rfl, XI', T.cl_Token, T.na_Token_text, tm_text, ⟨_, rfl⟩, by show 2 ≤ sizeLine; decide, fun p hp => ⟨p, _, rfl, .inr (.of upd_same), rfl, rfl, _, rfl, if_no (show inV (vS (word "last")) [V.str (Str.ofString "has"), V.str (Str.ofString "is")] = false by decide +kernel) ?_⟩⟩
        have sp := (Same.refl H1).new (o := .tup [V.str (Str.ofString "has"), V.str (Str.ofString "is")]) hp
        have S2 := S1.same sp
        have pl : plainAddr (restT l k) = .ok (.last, restT l (k + 1)) := by
          unfold plainAddr
          simp only [nx, dr]
          rfl
        exact ⟨_, rfl, e.1, _, dy', _, _, .str (sOf (word "last")), rfl, (XI'.mono sp), T.cl_Token, T.na_Token_text, tm_text, ⟨_, rfl⟩, mk .last (k + 1) _ _ (by omega) (sb1.trans (Sbut.of sp)) S2 pl rfl (by rw [w_nil]; rfl)⟩
      · refine ⟨_, rfl, e.1, _, dy', _, _, .str (sOf (word "has")), rfl, XI', T.cl_Token, T.na_Token_text, tm_text, ⟨_, rfl⟩, rfl, _, rfl, if_no (show decide (vS (word "has") = V.str (Str.ofString "line")) = false by decide +kernel) ?_⟩
        refine ⟨_, rfl, e.1, _, dy', _, _, .str (sOf (word "has")), rfl, XI', T.cl_Token, T.na_Token_text, tm_text, ⟨_, rfl⟩, rfl, _, rfl, if_no (show decide (vS (word "has") = V.str (Str.ofString "from")) = false by decide +kernel) ?_⟩
        refine ⟨_, rfl, e.1, _, dy', _, _, .str (sOf (word "has")), rfl, XI', T.cl_Token, T.na_Token_text, tm_text, ⟨_, rfl⟩, by show 2 ≤ sizeLine; decide, fun p hp => ⟨p, _, rfl, .inr (.of upd_same), rfl, rfl, _, rfl, if_yes (show inV (vS (word "has")) [V.str (Str.ofString "has"), V.str (Str.ofString "is")] = true by decide +kernel) ?_⟩⟩
        have sp := (Same.refl H1).new (o := .tup [V.str (Str.ofString "has"), V.str (Str.ofString "is")]) hp
        have S2 := S1.same sp
        obtain ⟨dx2, hrd2⟩ := S2.hr
        obtain ⟨e2, he2, _, _, hrest2, _⟩ := S2.cur
        have pl : plainAddr (restT l k) = (Vaseda.takeLetters (restT l (k + 1))).map fun x => (.has x.1, x.2) := by
          unfold plainAddr
          simp only [nx, dr]
          rfl
        refine ⟨_, rfl, e.1, _, dy', _, _, .str (sOf (word "has")), rfl, (XI'.mono sp), T.cl_Token, T.na_Token_text, tm_text, ⟨_, rfl⟩, _, rfl, rd, dx2, _, rfl, hrd2, nl_Reader_take_letters, H0, rd, tl, l, k + 1, rfl, S2, fun e3 nb3 he3 ht3 hc3 H3 sb3 S3 => ?_, fun h => q2 _ (by rw [pl, letters_no he2 fun nb hn => h e2 nb he2 hn]; rfl)⟩
        exact mk (.has nb3) (k + 2) _ _ (by omega) ((sb1.trans (Sbut.of sp)).trans sb3) S3 (by rw [pl, letters_ok he3 ht3 hc3]; rfl) rfl (by rw [show (V.str (sOf (word "has"))) = vS (word "has") from rfl]; rfl)
      · refine ⟨_, rfl, e.1, _, dy', _, _, .str (sOf (word "is")), rfl, XI', T.cl_Token, T.na_Token_text, tm_text, ⟨_, rfl⟩, rfl, _, rfl, if_no (show decide (vS (word "is") = V.str (Str.ofString "line")) = false by decide +kernel) ?_⟩
        refine ⟨_, rfl, e.1, _, dy', _, _, .str (sOf (word "is")), rfl, XI', T.cl_Token, T.na_Token_text, tm_text, ⟨_, rfl⟩, rfl, _, rfl, if_no (show decide (vS (word "is") = V.str (Str.ofString "from")) = false by decide +kernel) ?_⟩
        refine ⟨_, rfl, e.1, _, dy', _, _, .str (sOf (word "is")), rfl, XI', T.cl_Token, T.na_Token_text, tm_text, ⟨_, rfl⟩, by show 2 ≤ sizeLine; decide, fun p hp => ⟨p, _, rfl, .inr (.of upd_same), rfl, rfl, _, rfl, if_yes (show inV (vS (word "is")) [V.str (Str.ofString "has"), V.str (Str.ofString "is")] = true by decide +kernel) ?_⟩⟩
        have sp := (Same.refl H1).new (o := .tup [V.str (Str.ofString "has"), V.str (Str.ofString "is")]) hp
        have S2 := S1.same sp
        obtain ⟨dx2, hrd2⟩ := S2.hr
        obtain ⟨e2, he2, _, _, hrest2, _⟩ := S2.cur
        have pl : plainAddr (restT l k) = (Vaseda.takeLetters (restT l (k + 1))).map fun x => (.is_ x.1, x.2) := by
          unfold plainAddr
          simp only [nx, dr]
          rfl
        refine ⟨_, rfl, e.1, _, dy', _, _, .str (sOf (word "is")), rfl, (XI'.mono sp), T.cl_Token, T.na_Token_text, tm_text, ⟨_, rfl⟩, _, rfl, rd, dx2, _, rfl, hrd2, nl_Reader_take_letters, H0, rd, tl, l, k + 1, rfl, S2, fun e3 nb3 he3 ht3 hc3 H3 sb3 S3 => ?_, fun h => q2 _ (by rw [pl, letters_no he2 fun nb hn => h e2 nb he2 hn]; rfl)⟩
        exact mk (.is_ nb3) (k + 2) _ _ (by omega) ((sb1.trans (Sbut.of sp)).trans sb3) S3 (by rw [pl, letters_ok he3 ht3 hc3]; rfl) rfl (by rw [show (V.str (sOf (word "is"))) = vS (word "is") from rfl]; rfl)
    · rw [hrest]
      exact plain_wrong fun nb2 z => by
        rw [ht] at z
        cases z
        exact c
theorem nt_base (a : Vaseda.Addr) : ∀ j, adBase (nt j a) = adBase a
  | 0 => rfl
  | j + 1 => nt_base a j
theorem nt_nots (a : Vaseda.Addr) : ∀ j, adNots (nt j a) = j + adNots a
  | 0 => (Nat.zero_add _).symm
  | j + 1 => by
    show adNots (nt j a) + 1 = _
    rw [nt_nots a j]
    omega
abbrev s_read_address : Stmt := topS 66
theorem sc_read_address : FnScope ["reader", "nots", "found"] ["reader"] (defScope s_read_address) := ⟨rfl, rfl, rfl, by decide +kernel, rfl, by decide +kernel, by decide +kernel⟩
def spAddress (K : Frag) : Sp := fun vs H Q E => ∃ (H0 : Hp) (rd tl : Addr) (l : TkL) (k f : Nat), vs = [.ref rd] ∧ RdS K H0 H rd tl l k ∧ l.length < f + k ∧
  (∀ a k' x H', Vaseda.takeAddr f 0 (restT l k) = .ok (a, restT l k') → k ≤ k' → Sbut rd H H' → RdS K H0 H' rd tl l k' → H x = none → AdAt K (freshS H0 H') x a → Q (.ref x) H') ∧ (∀ x, Vaseda.takeAddr f 0 (restT l k) = .error x → FauE K E H0 x)
theorem ok_address (A : FnAt K mg "read_address" s_read_address ["reader"]) (T : Txt K mg)
    (D_read_nots : Dn P w K mg base (L2.CX P w) 6 "read_nots" ["reader"] (spNots K))
    (D_read_plain_address : Dn P w K mg base (L2.CX P w) 6 "read_plain_address" ["reader"] (spPlain K)) : Dn P w K mg base (L2.CX P w) 7 "read_address" ["reader"] (spAddress K) := A.dn fun f fd F => by
  refine okX F sc_read_address (fun vs H Q E h => ?_) (fun cdv A outer s H vs Q E hr h => ?_)
  · obtain ⟨H0, rd, tl, l, k, f, rfl, _⟩ := h
    rfl
  obtain ⟨H0, rd, tl, l, k, f, rfl, S, hf, q1, q2⟩ := h
  refine ⟨_, (pss_cons (ps_set (i := 1) sc_read_address.nd rfl (Or.inl rfl) (pe_f D_read_nots (hr.mono (by decide)) (passes_call (takes_of rfl rfl rfl rfl) (fun _ _ _ _ h => h)) (pa_cons (pv 0) pa_nil)))
      (pss_cons (ps_set (i := 2) sc_read_address.nd rfl (Or.inl rfl) (pe_f D_read_plain_address (hr.mono (by decide)) (passes_call (takes_of rfl rfl rfl rfl) (fun _ _ _ _ h => h)) (pa_cons (pv 0) pa_nil)))
      (pss_cons (ps_fld (pv 2) (pv 1) rfl)
      (pss_one (ps_ret (pv 2)))))), ?_⟩
  refine ⟨_, rfl, H0, rd, tl, l, k, f, rfl, S, hf, fun j k1 H1 eq hj hk1 sb1 S1 => ?_, q2⟩
  refine ⟨_, rfl, H0, rd, tl, l, k1, rfl, S1, fun a k2 x H2 pl an hk2 sb2 S2 hx had => ?_, fun g hg => q2 g (by rw [eq, hg]; rfl)⟩
  obtain ⟨dx, had⟩ := had
  have hx2 := fresh_same H0 H2 _ _ had
  have hx0 : H x = none := by
    cases e : H x with
    | none => rfl
    | some o =>
      by_cases z : x = rd
      · obtain ⟨d2, h2⟩ := S1.hr
        rw [← z, hx] at h2
        cases h2
      · rw [sb1 _ _ e z] at hx
        cases hx
  have nrd : rd ≠ x := fun z => by
    obtain ⟨d2, h2⟩ := S.hr
    rw [z, hx0] at h2
    cases h2
  refine ⟨_, rfl, _, rfl, x, _, dx, _, rfl, hx2, T.cl_Address, T.na_Address_nots, len_Address, ?_⟩
  rw [pt_Address_nots]
  refine ⟨_, rfl, ?_⟩
  have sb3 : Sbut rd H (upd H2 x (.ins (cA K "Address") dx (F_Address (vS (adBase a).1) (vS (adBase a).2.1) (.int ((adBase a).2.2.1 : Nat)) (.int ((adBase a).2.2.2 : Nat)) (.int (j : Nat))))) := fun b o e n => by
    rw [upd_ne (fun z => by rw [z, hx0] at e; cases e)]
    exact (sb1.trans sb2) b o e n
  obtain ⟨d2, h2⟩ := S2.hr
  refine q1 (nt j a) k2 x _ (by rw [eq, pl]; rfl) (Nat.le_trans hk1 hk2) sb3 (S.move sb3 ⟨d2, by rw [upd_ne nrd]; exact h2⟩ S2.kl) hx0 ⟨dx, ?_⟩
  rw [nt_base, nt_nots, an]
  exact fresh_get (fresh_none S.s0 hx0) upd_same
end
end Lp
end
section
set_option maxHeartbeats 4000000
/-! ### two letters in a list, their tokens known -/
namespace Lp
open PySem PySem.Spec PyProof.Rows L2
open PySem.W (Frag)
open VasedBase (Bytes word PTok Toks next nextWord here takeWord takeSign tokEq RESERVED)
section
variable {X : Cx} {pins : List (Addr × Obj)} {σ : L2.St} {H : Hp} {s : Shared}
/-- a local name is stored; its raw value stands in the frame -/
theorem store_raw {M : Model} {A : Around} {E : Value → Shared → Prop} {i : Nat} {x : Str} {v : V} {u : Value} {Q : Unit → Shared → Prop} (I : Inv X pins σ H s) (hN : X.N.Nodup) (hi : X.N[i]? = some x) (hk : X.env.scope.names.lookup x = some .local) (r : RelV v u)
    (h : ∀ s', s.toks ≤ s'.toks → Inv X pins (σ.set i (some v)) H s' → (∃ m, s'.heap.Ns X.env.locals m ∧ m x = some u) → Q () s') : wpAny M A (storeName X.env x u) Q E s := by
  obtain ⟨m, hn, hl⟩ := id I.loc
  have old : ∀ {b : Addr} {o : Obj}, X.s_0.heap.get? b = some o → b ≠ X.env.locals := fun e => Nat.ne_of_lt (Nat.lt_of_lt_of_le (Heap.lt_size e) I.ok.above)
  refine wpAny_storeName_local hk hn (fun h' hn' hs => ?_) (by rw [I.ok.kind]; rfl)
  have kp : ∀ {b : Addr} {o : Obj}, b ≠ X.env.locals → s.heap.get? b = some o → h'.get? b = some o := fun nb e => (hs.2 _ nb).trans e
  have un : Un X.fs X.ex X.H_0 H X.s_0.heap h' := by
    refine ⟨fun b o e n hb hx => kp (old e) (I.base.keep b o e n hb hx), fun b o e n hb hx => ?_, I.base.free, fun b o e hx => ?_, I.base.tups, I.base.frzs, I.base.tbls⟩
    · obtain ⟨sl, e1⟩ := I.base.slot b o e n hb hx
      exact ⟨sl, kp (old e) e1⟩
    · obtain ⟨o', e1⟩ := I.base.there b o e hx
      exact ⟨o', kp (old e) e1⟩
  have hok : HOk X.prog X.w H h' := fun b ob e => (I.hok b ob e).stay (fun c o hc q => kp (fun z => by
    rcases hc with hc | hc
    · rw [← hc, z, I.free] at e
      cases e
    · rw [z, I.free] at hc
      cases hc) q) (fun _ q => q) fun _ _ q => q
  refine h _ (by first | exact Nat.le_refl _ | exact Nat.le_succ _ | exact Nat.le_add_right _ _) ⟨I.ok, I.os, I.bare, un, ⟨_, hn', fun j y w e1 e2 e3 => ?_⟩, fun y c e => ?_, I.free, I.freeC, fun p hp => ?_, hok, by rw [List.length_set]; exact I.len⟩ ⟨_, hn', by simp⟩
  · by_cases hj : j = i
    · subst hj
      obtain rfl := Option.some.inj (hi.symm.trans e1)
      rw [List.getElem?_set_self (by rw [I.len]; exact (List.getElem?_eq_some_iff.mp hi).1)] at e2
      cases e2
      exact ⟨u, r, .inl ⟨hk, by simp⟩⟩
    · rw [List.getElem?_set_ne (Ne.symm hj)] at e2
      obtain ⟨u', r', q⟩ := hl j y w e1 e2 e3
      have ny : y ≠ x := fun z => hj (nodup_ix hN e1 (z ▸ hi))
      rcases q with ⟨k, q⟩ | ⟨k, c, q1, q2⟩
      · exact ⟨u', r', .inl ⟨k, by simp [ny, q]⟩⟩
      · exact ⟨u', r', .inr ⟨k, c, q1, q2.sameBut hs (I.cne y c q1)⟩⟩
  · obtain ⟨v', q⟩ := I.cell y c e
    exact ⟨v', q.sameBut hs (I.cne y c e)⟩
  · obtain ⟨e, n, ne, r⟩ := I.pin p hp
    exact ⟨kp ne e, n, ne, r⟩
end
section
variable {X : Cx} {CX : CXT} {k1 k2 k3 : Nat} {C CR : Addr} {psL psS psC : List Str} {spL spS : Spc} {spC : Sp} {E : XK}
/-- letters = reader.take_letters(); return Command(address, word, [letters, read_second(reader)], 0) -/
def cTwo (CR C : Addr) (spL spS : Spc) (spC : Sp) (E : XK) : TSc := fun D σ H n => ∃ rd dx fs av wv, σ[0]? = some (some (.ref rd)) ∧ σ[1]? = some (some av) ∧ σ[2]? = some (some wv) ∧ H rd = some (.ins CR dx fs) ∧ fs.lookup ("take_letters" : Str) = none ∧
  spL [.ref rd] H n (fun u v H1 n1 => spS [.ref rd] H1 n1 (fun u2 v2 H2 n2 => ∃ y z t t2, u = .str y t ∧ v = .str y ∧ u2 = .str z t2 ∧ v2 = .str z ∧ t ≠ 0 ∧ t2 ≠ 0 ∧ t ≠ t2 ∧ ∀ (q : Addr) (o : Obj), H2 q = none → o.cls = .type "list" → o.data = .seq #[.str y t, .str z t2] 0 →
    ∀ x dx, (upd H2 q (.frz o (.lst [.str y, .str z]))) x = none → (upd H2 q (.frz o (.lst [.str y, .str z]))) dx = none → dx ≠ x →
      spC [.ref x, av, wv, .ref q, .int 0] (upd (upd (upd H2 q (.frz o (.lst [.str y, .str z]))) dx (.own x)) x (.ins C dx [])) (fun v H3 => v = .non ∧ D.rt (.ref x) (.ref x) H3 n2) E0) E) E
theorem pssc_two {pl : Sem Bool} {rest : List Stmt} {p1 p2 p3 p4 p5 p6 p7 p8 p9 p10 p11 p12 p13 p14 p15 p16 : Pos} {j : Nat} (DL : DmC X.prog X.w X.K X.mg X.base CX k1 CR "take_letters" psL spL) (DS : DnC X.prog X.w X.K X.mg X.base CX k2 "read_second" psS spS) (DC : Dc X.prog X.w X.K X.mg X.base k3 "Command" C psC spC)
    (c : Cls X.K CR) (hr1 : Room k1 X.A) (hr2 : Room k2 X.A) (hr3 : Room (k3 + 1) X.A) (hx : Passes CX X E) (hN : X.N = [("reader" : Str), "address", "word", "letters"] := by rfl) (hnd : X.N.Nodup := by decide)
    (h0 : X.env.scope.names.lookup ("reader" : Str) = some .local := by rfl) (h1 : X.env.scope.names.lookup ("address" : Str) = some .local := by rfl) (h2 : X.env.scope.names.lookup ("word" : Str) = some .local := by rfl) (h3 : X.env.scope.names.lookup ("letters" : Str) = some .local := by rfl)
    (g1 : Gl X "Command" := by rfl) (g2 : Gl X "read_second" := by rfl)
    (ht : eval (.Call (.Attribute (.Name "reader" p2) "take_letters" p3) [] [] p4) X.env = (do
      let ov ← eval (.Name "reader" p2) X.env
      standAt p3.atName
      let (f, first) ← holding [ov] (getMethod ov "take_letters" pl)
      callWith p4 f first (backTo p4 (starEach [] X.env)) (backToKw p4 (keywordEach [] X.env))) := by rfl)
    (hsw : swapsWith (.Call (.Attribute (.Name "reader" p2) "take_letters" p3) [] [] p4) (some (.Name "letters" p1)) p5.line X.env = pure false := by rfl) :
    PSsc X (.Assign [.Name "letters" p1] (.Call (.Attribute (.Name "reader" p2) "take_letters" p3) [] [] p4) p5 ::
      .Return (some (.Call (.Name "Command" p6) [.Name "address" p7, .Name "word" p8, .List [.Name "letters" p9, .Call (.Name "read_second" p10) [.Name "reader" p11] [] p12] p13, .Constant (.int 0) j p14] [] p15)) p16 :: rest) (cTwo CR C spL spS spC E) := by
  have n0 : X.N[0]? = some ("reader" : Str) := by rw [hN]; rfl
  have n1 : X.N[1]? = some ("address" : Str) := by rw [hN]; rfl
  have n2 : X.N[2]? = some ("word" : Str) := by rw [hN]; rfl
  have n3 : X.N[3]? = some ("letters" : Str) := by rw [hN]; rfl
  obtain ⟨fC, fdC, m1, m2, m3, m4⟩ := DC.ex
  refine ⟨fun pins s σ H n D hn I h => ?_⟩
  obtain ⟨rd, dx, fs, av, wv, e0, e1, e2, hrd, hlk, q⟩ := h
  refine wpAny_execs_cons (wpAny_Assign_Name (thn ((pec_m0 (pl := pl) DL c hr1 hx (pe_var (X := X) (pos := p2) n0 (.inl h0)) ht).run pins s σ H n _ hn I ⟨_, e0, rd, dx, fs, rfl, hrd, hlk, q⟩) fun u s1 ⟨v, H1, c1, I1, r1, t1, q1⟩ => ?_) hsw)
  refine store_raw I1 hnd n3 h3 r1 fun s2 tk2 I2 ⟨m, hn2, hm⟩ => ?_
  have t2 : c1 ≤ s2.toks := Nat.le_trans t1 tk2
  have e0' : (σ.set 3 (some v))[0]? = some (some (.ref rd)) := by rw [List.getElem?_set_ne (by decide)]; exact e0
  have e1' : (σ.set 3 (some v))[1]? = some (some av) := by rw [List.getElem?_set_ne (by decide)]; exact e1
  have e2' : (σ.set 3 (some v))[2]? = some (some wv) := by rw [List.getElem?_set_ne (by decide)]; exact e2
  refine wpAny_execs_cons (wpAny_Return_some ?_)
  refine wpAny_Call_Name_kw (ld_glob I2 g1 m2 ?_ (by decide))
  refine PySem.W.callWith_K (h₀ := X.base) I.ok.mod.kin m1.kp ?_ rfl rfl
  show wpAny _ _ (spliced ((false, eval (.Name "address" p7) X.env) :: (false, eval (.Name "word" p8) X.env) :: (false, eval (.List [.Name "letters" p9, .Call (.Name "read_second" p10) [.Name "reader" p11] [] p12] p13) X.env) :: (false, eval (.Constant (.int 0) j p14) X.env) :: [])) _ _ s2
  refine Calls.spliced_cons (raw_name n1 (.inl h1) I2 e1' fun ua ra => ?_)
  refine Calls.spliced_cons (raw_name n2 (.inl h2) I2 e2' fun uw rw_ => ?_)
  refine Calls.spliced_cons (wpAny_List_spliced ?_)
  show wpAny _ _ (spliced ((false, eval (.Name "letters" p9) X.env) :: (false, eval (.Call (.Name "read_second" p10) [.Name "reader" p11] [] p12) X.env) :: [])) _ _ s2
  refine Calls.spliced_cons (wpAny_Name (wpAny_loadName_local I2.ok.kind h3 hn2 hm ?_) (by decide))
  refine Calls.spliced_cons (thn ((pec_f DS hr2 hx (PAc.of (pa_cons (pe_var (X := X) (pos := p11) n0 (.inl h0)) pa_nil)) g2).run pins s2 _ H1 c1 _ t2 I2 ⟨_, e0', fun us rs => q1⟩) fun u2 s3 ⟨v2, H2, c2, I3, r2, t3, y, z, t, t', eu, ev, eu2, ev2, nt, nt', ne, q3⟩ => ?_)
  subst eu ev eu2 ev2
  have h2z : (2 : Nat) ≤ sizeLine := by decide
  refine Calls.spliced_nil ⟨h2z, ?_⟩
  have hf : H2 s3.heap.objs.size = none := I3.hok.fresh (Nat.le_refl _)
  have I4 : Inv X pins (σ.set 3 (some (V.str y))) (upd H2 s3.heap.objs.size (.frz { cls := .type "list", data := .seq #[.str y t, .str z t'] 0 } (.lst [.str y, .str z]))) { s3 with heap := s3.heap.push { cls := .type "list", data := .seq #[.str y t, .str z t'] 0 } } :=
    I3.laid (t' := s3.toks) (fun b u e => Heap.get?_push_of_some _ e) (Nat.le_refl _) ⟨Heap.get?_push_size _ rfl, h2z, [.str y t, .str z t'], 0, .cons ⟨_, rfl⟩ (.cons ⟨_, rfl⟩ .nil), Heap.get?_push_size _ rfl⟩
  have q4 := q3 s3.heap.objs.size { cls := .type "list", data := .seq #[.str y t, .str z t'] 0 } hf rfl rfl
  refine Calls.spliced_cons (wpAny_Constant_int (Calls.spliced_nil ?_))
  refine ⟨(I4.tok _).kIn, ?_⟩
  have rr : Vals [av, wv, .ref s3.heap.objs.size, .int 0] [ua, uw, .ref s3.heap.objs.size, .int 0 s3.toks] := .cons ra (.cons rw_ (.cons rfl (.cons ⟨_, rfl⟩ .nil)))
  refine wpAny_mono (wpAny_toks_of (n := c2) (show c2 ≤ s3.toks + 1 from Nat.le_succ_of_le t3) (run_make (dvs := []) (ds := []) (E := E0) (Q := fun v H3 => ∃ x, v = .ref x ∧ D.rt (.ref x) (.ref x) H3 c2) m1 m4 hr3 m3 .nil pass0 (I4.tok (s3.toks + 1)) rr fun x dx hx hdx hne => ?_)) (fun u s5 zz => ?_) fun _ _ z => z.2
  · have e : (fun (v : V) (H3 : Hp) => v = .non ∧ ∃ x', V.ref x = V.ref x' ∧ D.rt (.ref x') (.ref x') H3 c2) = fun v H3 => v = .non ∧ D.rt (.ref x) (.ref x) H3 c2 := by
      funext v H3
      exact propext ⟨fun ⟨a, x', b, c⟩ => by
        cases b
        exact ⟨a, c⟩, fun ⟨a, c⟩ => ⟨a, x, rfl, c⟩⟩
    exact e ▸ q4 x dx hx hdx hne
  · obtain ⟨t5, v5, H5, I5, r5, x, rfl, q5⟩ := zz
    obtain rfl : u = Value.ref x := r5
    exact ⟨.ref x, _, H5, c2, I5, rfl, t5, q5⟩
end
end Lp
end
section
set_option maxHeartbeats 4000000
/-! ### a deed -/
namespace Lp
open PySem PySem.Spec PyProof.Rows L2
open PySem.W (Frag)
open VasedBase (Bytes word PTok Toks next nextWord here takeWord takeSign tokEq RESERVED)
open Vaseda (takeInstead takeLetters takeDeed takeTwo takeNum Deed Cmd)
section
variable {P : Program} {w : World} {K : Frag} {mg : Str → Option Value} {base : Heap}
theorem RdS.name8 {H0 H : Hp} {rd tl : Addr} {l : TkL} {k : Nat} (S : RdS K H0 H rd tl l k) {i : Nat} {e : Addr × PTok × Nat} {nb : Bytes} (he : l[i]? = some e) (ht : e.2.1.tok = .name nb) : nb ≠ [] ∧ nb.length ≤ 8 :=
  S.wf.nm e.2.1 (List.mem_map.mpr ⟨e, List.mem_of_getElem? he, rfl⟩) nb ht
abbrev s_read_second : Stmt := topS 67
theorem sc_read_second : FnScope ["reader"] ["reader"] (defScope s_read_second) := ⟨rfl, rfl, rfl, by decide +kernel, rfl, by decide +kernel, by decide +kernel⟩
def spSecond (K : Frag) : Spc := fun vs H n Q E => ∃ (H0 : Hp) (rd tl : Addr) (l : TkL) (k : Nat), vs = [.ref rd] ∧ RdS K H0 H rd tl l k ∧
  (∀ b t k' H' n', takeInstead (restT l k) = .ok (b, restT l k') → b.length ≤ 8 → ((n ≤ t ∧ t < n') ∨ ∃ e nb, l[k]? = some e ∧ e.2.1.tok = .name nb ∧ t = e.2.2) → n ≤ n' → k ≤ k' → Sbut rd H H' → RdS K H0 H' rd tl l k' → Q (.str (sOf b) t) (vS b) H' n') ∧
  (∀ f, takeInstead (restT l k) = .error f → FauE K E H0 f)
theorem ok_second (A : FnAt K mg "read_second" s_read_second ["reader"]) (T : Txt K mg)
    (D_Reader_is_word : Dm P w K mg base CX0 2 (cA K "Reader") "is_word" ["self", "word"] (spIsWord K))
    (D_Reader_take_word : Dm P w K mg base (L2.CX P w) 5 (cA K "Reader") "take_word" ["self", "word"] (spTakeWord K))
    (D_Reader_take_letters : DmC P w K mg base (L2.CX P w) 5 (cA K "Reader") "take_letters" ["self"] (spTakeLetters K)) : DnC P w K mg base (L2.CX P w) 6 "read_second" ["reader"] (spSecond K) := A.dnC fun f fd F => by
  refine okC F sc_read_second (fun vs H n Q E h => ?_) (fun cdv A outer s H vs n Q E hr h => ?_)
  · obtain ⟨H0, rd, tl, l, k, rfl, _⟩ := h
    rfl
  obtain ⟨H0, rd, tl, l, k, rfl, S, q1, q2⟩ := h
  refine ⟨_, (pssc_if (pt_val (pe_m D_Reader_is_word T.cl_Reader (hr.mono (by decide)) pass0 (pv 0) (pa_cons pe_str pa_nil)))
      (pssc_std (ps_expr (pe_m D_Reader_take_word T.cl_Reader (hr.mono (by decide)) (passes_call (takes_of rfl rfl rfl rfl) (fun _ _ _ _ h => h)) (pv 0) (pa_cons pe_str pa_nil)))
      (pssc_ret pec_str))
      pssc_nil
      (pssc_ret (pec_m0 D_Reader_take_letters T.cl_Reader (hr.mono (by decide)) (passes_call (takes_of rfl rfl rfl rfl) (fun _ _ _ _ h => h)) (pv 0)))), ?_⟩
  obtain ⟨dx, hrd⟩ := S.hr
  obtain ⟨e, he, hv, tk, hrest, hlast⟩ := S.cur
  have dr : (restT l k).drop 1 = restT l (k + 1) := by rw [hrest]; rfl
  refine ⟨_, rfl, rd, dx, _, rfl, hrd, nl_Reader_is_word, H0, rd, tl, l, k, word "none", rfl, S, _, rfl, ?_⟩
  refine if_of (fun c => ?_) (fun c => ?_)
  · have ti : takeInstead (restT l k) = .ok ([], restT l (k + 1)) := by
      unfold Vaseda.takeInstead
      rw [if_pos (show nextWord "none" (restT l k) = true from c), dr]
    refine ⟨_, rfl, rd, dx, _, rfl, hrd, nl_Reader_take_word, H0, rd, tl, l, k, word "none", rfl, S, fun _ e2 H2 he2 sb2 S2 => ?_, fun z => absurd (z.symm.trans c) Bool.false_ne_true⟩
    intro t n' h1 h2
    exact q1 [] t (k + 1) H2 n' ti (by decide) (.inl ⟨h1, h2⟩) (by omega) (by omega) sb2 S2
  · have ti : takeInstead (restT l k) = takeLetters (restT l k) := by
      unfold Vaseda.takeInstead
      rw [if_neg (by rw [show nextWord "none" (restT l k) = false from c]; exact Bool.false_ne_true)]
    rw [ti] at q1 q2
    refine ⟨_, rfl, rd, dx, _, rfl, hrd, nl_Reader_take_letters, H0, rd, tl, l, k, rfl, S, fun e2 nb he2 ht2 hc2 H' sb2 S2 => ?_, fun h => q2 _ (letters_no he fun nb hn => h e nb he hn)⟩
    exact q1 nb e2.2.2 (k + 1) H' n (letters_ok he2 ht2 hc2) (S.name8 he2 ht2).2 (.inr ⟨e2, nb, he2, ht2, rfl⟩) (Nat.le_refl _) (by omega) sb2 S2
abbrev s_read_deed : Stmt := topS 68
theorem sc_read_deed : FnScope ["reader", "address", "word", "letters"] ["reader", "address"] (defScope s_read_deed) := ⟨rfl, rfl, rfl, by decide +kernel, rfl, by decide +kernel, by decide +kernel⟩
def spDeed (K : Frag) : Spc := fun vs H n Q E => ∃ (H0 : Hp) (rd tl : Addr) (l : TkL) (k : Nat) (ar : Addr) (ad : Vaseda.Addr), vs = [.ref rd, .ref ar] ∧ RdS K H0 H rd tl l k ∧ AdAt K (freshS H0 H) ar ad ∧ DisT 1 n l ∧ 1 ≤ n ∧
  (∀ d k' c H' n', takeDeed (restT l k) = .ok (d, restT l k') → n ≤ n' → k < k' → Sbut rd H H' → RdS K H0 H' rd tl l k' → CmAt K (freshS H0 H') c ⟨ad, d⟩ → Q (.ref c) (.ref c) H' n') ∧ (∀ f, takeDeed (restT l k) = .error f → FauE K E H0 f)
theorem AdAt.sbut {H0 H H' : Hp} {rd tl : Addr} {l : TkL} {k : Nat} {ar : Addr} {ad : Vaseda.Addr} (S : RdS K H0 H rd tl l k) (sb : Sbut rd H H') (h : AdAt K (freshS H0 H) ar ad) : AdAt K (freshS H0 H') ar ad := by
  obtain ⟨dx, h⟩ := h
  refine ⟨dx, freshS_sbut sb _ _ h fun z => ?_⟩
  obtain ⟨d2, h2⟩ := S.hr
  have q := fresh_same H0 H _ _ h
  rw [z, h2] at q
  have q := congrArg (fun o => match o with
    | some (HO.ins _ _ fs) => fs.length
    | _ => 0) q
  exact absurd q (by show ¬ (2 = 5); decide)
theorem deed_wrong {p : PTok} {r : Toks} (h : ∀ nb, p.tok = .name nb → ([word "delete", word "before", word "after", word "change", word "swap", word "first", word "keep", word "bring", word "trade", word "skip", word "stop"] : List Bytes).contains nb = false) : takeDeed (p :: r) = .error ⟨3, p.place⟩ := by
  have no : ∀ s, s ∈ ["delete", "before", "after", "change", "swap", "first", "keep", "bring", "trade", "skip", "stop"] → nextWord s (p :: r) = false := fun s hs => by
    cases e : nextWord s (p :: r) with
    | false => rfl
    | true =>
      have q := h _ (tokEq_name.mp e)
      have : ([word "delete", word "before", word "after", word "change", word "swap", word "first", word "keep", word "bring", word "trade", word "skip", word "stop"] : List Bytes).contains (word s) = true := by
        have := List.mem_map_of_mem (f := word) hs
        exact List.contains_iff_mem.mpr this
      rw [this] at q
      cases q
  unfold Vaseda.takeDeed
  simp only [no "delete" (by simp), no "before" (by simp), no "after" (by simp), no "change" (by simp), no "swap" (by simp), no "first" (by simp), no "keep" (by simp), no "bring" (by simp), no "trade" (by simp), no "skip" (by simp), no "stop" (by simp), Bool.false_eq_true, if_false]
  rfl
theorem ok_deed (A : FnAt K mg "read_deed" s_read_deed ["reader", "address"]) (T : Txt K mg)
    (D_Reader_ahead : Dm P w K mg base CX0 1 (cA K "Reader") "ahead" ["self"] (spAhead K))
    (D_Reader_take_word : Dm P w K mg base (L2.CX P w) 5 (cA K "Reader") "take_word" ["self", "word"] (spTakeWord K))
    (D_Reader_take_number : Dm P w K mg base (L2.CX P w) 5 (cA K "Reader") "take_number" ["self", "low", "high"] (spTakeNumber K))
    (D_Reader_take_letters : DmC P w K mg base (L2.CX P w) 5 (cA K "Reader") "take_letters" ["self"] (spTakeLetters K))
    (D_read_second : DnC P w K mg base (L2.CX P w) 6 "read_second" ["reader"] (spSecond K))
    (D_Command : Dc P w K mg base 1 "Command" (cA K "Command") ["self", "address", "word", "letters", "number"] (spNewCommand K)) : DnC P w K mg base (L2.CX P w) 7 "read_deed" ["reader", "address"] (spDeed K) := A.dnC fun f fd F => by
  refine okC F sc_read_deed (fun vs H n Q E h => ?_) (fun cdv A outer s H vs n Q E hr h => ?_)
  · obtain ⟨H0, rd, tl, l, k, ar, ad, rfl, _⟩ := h
    rfl
  obtain ⟨H0, rd, tl, l, k, ar, ad, rfl, S, had, dis, hn1, q1, q2⟩ := h
  refine ⟨_, (pssc_std (ps_set (i := 2) sc_read_deed.nd rfl (Or.inl rfl) (pe_fldX (pe_m0 D_Reader_ahead T.cl_Reader (hr.mono (by decide)) pass0 (pv 0)) rfl))
      (pssc_if (pt_cmpR op_in_seq (pv 2) (pe_gref T.g_BARE) (by rfl))
      (pssc_std (ps_expr (pe_m D_Reader_take_word T.cl_Reader (hr.mono (by decide)) (passes_call (takes_of rfl rfl rfl rfl) (fun _ _ _ _ h => h)) (pv 0) (pa_cons (pv 2) pa_nil)))
      (pssc_ret (PEc.of (pe_c D_Command (hr.mono (by decide)) (pa_cons (pv 1) (pa_cons (pv 2) (pa_cons (pe_lst pa_nil) (pa_cons pe_int pa_nil))))))))
      pssc_nil
      (pssc_if (pt_cmpR op_in_seq (pv 2) (pe_gref T.g_WITH_LETTERS) (by rfl))
      (pssc_std (ps_expr (pe_m D_Reader_take_word T.cl_Reader (hr.mono (by decide)) (passes_call (takes_of rfl rfl rfl rfl) (fun _ _ _ _ h => h)) (pv 0) (pa_cons (pv 2) pa_nil)))
      (pssc_ret (pec_c D_Command (hr.mono (by decide)) (pac_cons (PEc.of (pv 1)) (pac_cons (PEc.of (pv 2)) (pac_cons (pec_lst (pac_cons (pec_m0 D_Reader_take_letters T.cl_Reader (hr.mono (by decide)) (passes_call (takes_of rfl rfl rfl rfl) (fun _ _ _ _ h => h)) (pv 0)) (PAc.of pa_nil))) (PAc.of (pa_cons pe_int pa_nil))))))))
      pssc_nil
      (pssc_if (pt_cmpR op_in_seq (pv 2) (pe_gref T.g_WITH_TWO) (by rfl))
      (pssc_std (ps_expr (pe_m D_Reader_take_word T.cl_Reader (hr.mono (by decide)) (passes_call (takes_of rfl rfl rfl rfl) (fun _ _ _ _ h => h)) (pv 0) (pa_cons (pv 2) pa_nil)))
      (pssc_two (hnd := sc_read_deed.nd) D_Reader_take_letters D_read_second D_Command T.cl_Reader (hr.mono (by decide)) (hr.mono (by decide)) (hr.mono (by decide)) (passes_call (takes_of rfl rfl rfl rfl) (fun _ _ _ _ h => h))))
      pssc_nil
      (pssc_std (ps_expr (pe_m D_Reader_take_word T.cl_Reader (hr.mono (by decide)) (passes_call (takes_of rfl rfl rfl rfl) (fun _ _ _ _ h => h)) (pv 0) (pa_cons pe_str pa_nil)))
      (pssc_ret (PEc.of (pe_c D_Command (hr.mono (by decide)) (pa_cons (pv 1) (pa_cons pe_str (pa_cons (pe_lst pa_nil) (pa_cons (pe_m D_Reader_take_number T.cl_Reader (hr.mono (by decide)) (passes_call (takes_of rfl rfl rfl rfl) (fun _ _ _ _ h => h)) (pv 0) (pa_cons pe_int (pa_cons (pe_gint T.g_MOST_SKIP) pa_nil))) pa_nil)))))))))))), ?_⟩
  obtain ⟨dx, hrd⟩ := S.hr
  obtain ⟨e, he, hv, ⟨dy, uk, ut, un, up, XI, r1, r2, r3, r4⟩, hrest, hlast⟩ := S.cur
  have dr : (restT l k).drop 1 = restT l (k + 1) := by rw [hrest]; rfl
  refine ⟨_, rfl, rd, dx, _, rfl, hrd, nl_Reader_ahead, H0, rd, tl, l, k, rfl, S, fun e2 he2 => ?_⟩
  obtain rfl := Option.some.inj (he.symm.trans he2)
  refine ⟨e.1, _, dy, _, ut, .str (sOf (txOf e.2.1.tok)), rfl, XI, T.cl_Token, T.na_Token_text, tm_text, ⟨_, r2⟩, ?_⟩
  have mkC : ∀ (d : Deed) (k' : Nat) (H2 : Hp) (lq : Addr) (vs : List V) (R : Addr → Hp → Prop), Sbut rd H H2 → RdS K H0 H2 rd tl l k' → LetAt (freshS H0 H2) lq d → DeedOk d → vs = [.ref ar, vS (wdOf d), .ref lq, .int (skOf d : Nat)] →
      (∀ x H3, Sbut rd H H3 → RdS K H0 H3 rd tl l k' → CmAt K (freshS H0 H3) x ⟨ad, d⟩ → R x H3) → ∀ x dx, H2 x = none → H2 dx = none → dx ≠ x →
      spNewCommand K (.ref x :: vs) (upd (upd H2 dx (.own x)) x (.ins (cA K "Command") dx [])) (fun v H3 => v = .non ∧ R x H3) E0 := fun d k' H2 lq vs R sb S2 hl hd ev hR x dx hx hdx hne => by
    subst ev
    refine ⟨x, dx, _, _, _, _, rfl, upd_same, fun H3 sb3 h3 => ⟨rfl, ?_⟩⟩
    have s3 : Same H2 H3 := Same.but hx hdx sb3
    have sb4 := sb.trans (Sbut.of s3)
    refine hR x H3 sb4 (S2.same s3) ⟨dx, ar, lq, fresh_get (fresh_none S2.s0 hx) h3, had.sbut S sb4, hl.mono (fresh_mono s3), hd⟩
  have bare : ∀ (b : Bytes), (if false = true then !inV (V.str (sOf b)) [.str "delete", .str "keep", .str "bring", .str "trade", .str "stop"] else inV (V.str (sOf b)) [.str "delete", .str "keep", .str "bring", .str "trade", .str "stop"]) = ([word "delete", word "keep", word "bring", word "trade", word "stop"] : List Bytes).contains b := fun b => inV_map b [word "delete", word "keep", word "bring", word "trade", word "stop"]
  have wlet : ∀ (b : Bytes), (if false = true then !inV (V.str (sOf b)) [.str "before", .str "after", .str "change"] else inV (V.str (sOf b)) [.str "before", .str "after", .str "change"]) = ([word "before", word "after", word "change"] : List Bytes).contains b := fun b => inV_map b [word "before", word "after", word "change"]
  have wtwo : ∀ (b : Bytes), (if false = true then !inV (V.str (sOf b)) [.str "swap", .str "first"] else inV (V.str (sOf b)) [.str "swap", .str "first"]) = ([word "swap", word "first"] : List Bytes).contains b := fun b => inV_map b [word "swap", word "first"]
  rcases (Classical.em (∃ nb, e.2.1.tok = .name nb ∧ ([word "delete", word "before", word "after", word "change", word "swap", word "first", word "keep", word "bring", word "trade", word "skip", word "stop"] : List Bytes).contains nb = true)).symm with hin | hin
  · have dw : takeDeed (restT l k) = .error ⟨3, here (restT l k)⟩ := by
      rw [hrest]
      refine deed_wrong fun nb hnb => ?_
      cases hc : ([word "delete", word "before", word "after", word "change", word "swap", word "first", word "keep", word "bring", word "trade", word "skip", word "stop"] : List Bytes).contains nb with
      | false => rfl
      | true => exact absurd ⟨nb, hnb, hc⟩ hin
    have tn : ([word "delete", word "before", word "after", word "change", word "swap", word "first", word "keep", word "bring", word "trade", word "skip", word "stop"] : List Bytes).contains (txOf e.2.1.tok) = false := by
      cases ht : e.2.1.tok with
      | name nb =>
        cases hc : ([word "delete", word "before", word "after", word "change", word "swap", word "first", word "keep", word "bring", word "trade", word "skip", word "stop"] : List Bytes).contains nb with
        | false => exact hc
        | true => exact absurd ⟨nb, ht, hc⟩ hin
      | num n => rfl
      | sign n => rfl
      | last => rfl
    have sub : ∀ L : List Bytes, (∀ x ∈ L, x ∈ ([word "delete", word "before", word "after", word "change", word "swap", word "first", word "keep", word "bring", word "trade", word "skip", word "stop"] : List Bytes)) → L.contains (txOf e.2.1.tok) = false := fun L hL => by
      cases hc : L.contains (txOf e.2.1.tok) with
      | false => rfl
      | true => exact absurd ((List.contains_iff_mem.mpr (hL _ (List.contains_iff_mem.mp hc))).symm.trans tn) Bool.false_ne_true.symm
    refine ⟨_, rfl, cA K "BARE", _, rfl, .inr (T.tt_BARE _), rfl, by decide +kernel, _, rfl, ?_⟩
    rw [bare]
    refine if_no (sub _ (by decide +kernel)) ?_
    refine ⟨_, rfl, cA K "WITH_LETTERS", _, rfl, .inr (T.tt_WITH_LETTERS _), rfl, by decide +kernel, _, rfl, ?_⟩
    rw [wlet]
    refine if_no (sub _ (by decide +kernel)) ?_
    refine ⟨_, rfl, cA K "WITH_TWO", _, rfl, .inr (T.tt_WITH_TWO _), rfl, by decide +kernel, _, rfl, ?_⟩
    rw [wtwo]
    refine if_no (sub _ (by decide +kernel)) ?_
    have ns : next (.name (word "skip")) (restT l k) = false := by
      rw [hrest, next_cons]
      cases hc : tokEq e.2.1.tok (.name (word "skip")) with
      | false => rfl
      | true => exact absurd ⟨word "skip", tokEq_name.mp hc, by decide +kernel⟩ hin
    exact ⟨_, rfl, rd, dx, _, rfl, hrd, nl_Reader_take_word, H0, rd, tl, l, k, word "skip", rfl, S, (fun z => absurd (ns.symm.trans z) Bool.false_ne_true), fun _ => q2 _ dw⟩
  obtain ⟨nb, ht, hin⟩ := hin
  have tx : txOf e.2.1.tok = nb := by rw [ht]; rfl
  rw [tx]
  have nx : ∀ s, nextWord s (restT l k) = (nb == word s) := fun s => by rw [hrest]; exact next_name ht
  have cs : nb = word "delete" ∨ nb = word "before" ∨ nb = word "after" ∨ nb = word "change" ∨ nb = word "swap" ∨ nb = word "first" ∨ nb = word "keep" ∨ nb = word "bring" ∨ nb = word "trade" ∨ nb = word "skip" ∨ nb = word "stop" := by
    have := List.contains_iff_mem.mp hin
    simpa using this
  rcases cs with rfl | rfl | rfl | rfl | rfl | rfl | rfl | rfl | rfl | rfl | rfl
  · refine ⟨_, rfl, cA K "BARE", _, rfl, .inr (T.tt_BARE _), rfl, by decide +kernel, _, rfl, ?_⟩
    rw [bare]
    refine if_yes (show ([word "delete", word "keep", word "bring", word "trade", word "stop"] : List Bytes).contains (word "delete") = true by decide +kernel) ?_
    refine ⟨_, rfl, rd, dx, _, rfl, hrd, nl_Reader_take_word, _, rfl, H0, rd, tl, l, k, word "delete", rfl, S, fun _ e2 H2 he2 sb2 S2 => ?_, fun z => absurd (z.symm.trans (nx "delete")) (by rw [show (word "delete" == word "delete") = true from by decide +kernel]; exact Bool.false_ne_true)⟩
    obtain ⟨dx2, hrd2⟩ := S2.hr
    have td : takeDeed (restT l k) = .ok (.delete, restT l (k + 1)) := by
      unfold Vaseda.takeDeed
      simp only [nx, dr]
      rfl
    refine ⟨_, rfl, _, rfl, by show 0 ≤ sizeLine; decide, fun p hp => ?_⟩
    exact mkC .delete (k + 1) _ p _ (fun x H3 => ∀ u, L2.RelV (.ref x) u → Q u (.ref x) H3 n) (sb2.trans (Sbut.of ((Same.refl H2).new hp))) (S2.same ((Same.refl H2).new hp)) True.intro True.intro rfl (fun x H3 s3 S3 cm u hu => by
      cases hu
      exact q1 _ _ x H3 n td (Nat.le_refl _) (by omega) s3 S3 cm)
  · refine ⟨_, rfl, cA K "BARE", _, rfl, .inr (T.tt_BARE _), rfl, by decide +kernel, _, rfl, ?_⟩
    rw [bare]
    refine if_no (show ([word "delete", word "keep", word "bring", word "trade", word "stop"] : List Bytes).contains (word "before") = false by decide +kernel) ?_
    refine ⟨_, rfl, cA K "WITH_LETTERS", _, rfl, .inr (T.tt_WITH_LETTERS _), rfl, by decide +kernel, _, rfl, ?_⟩
    rw [wlet]
    refine if_yes (show ([word "before", word "after", word "change"] : List Bytes).contains (word "before") = true by decide +kernel) ?_
    refine ⟨_, rfl, rd, dx, _, rfl, hrd, nl_Reader_take_word, _, rfl, H0, rd, tl, l, k, word "before", rfl, S, fun _ e2 H2 he2 sb2 S2 => ?_, fun z => absurd (z.symm.trans (nx "before")) (by rw [show (word "before" == word "before") = true from by decide +kernel]; exact Bool.false_ne_true)⟩
    obtain ⟨dx2, hrd2⟩ := S2.hr
    have td : takeDeed (restT l k) = (takeLetters (restT l (k + 1))).map fun x => (.before x.1, x.2) := by
      unfold Vaseda.takeDeed
      simp only [nx, dr]
      rfl
    obtain ⟨e3, he3, _, _, hrest3, _⟩ := S2.cur
    refine ⟨_, rfl, fun u1 h1 => ⟨_, rfl, fun u2 h2 => ?_⟩⟩
    refine ⟨_, rfl, rd, dx2, _, rfl, hrd2, nl_Reader_take_letters, H0, rd, tl, l, k + 1, rfl, S2, fun e4 nb4 he4 ht4 hc4 H3 sb3 S3 => ?_, fun h => q2 _ (by rw [td, letters_no he3 fun nb hn => h e3 nb he3 hn]; rfl)⟩
    intro us rs
    refine ⟨by show 1 ≤ sizeLine; decide, fun p hp us2 rs2 => ?_⟩
    have sp := (Same.refl H3).new (o := .lst [vS nb4]) hp
    exact mkC (.before nb4) (k + 2) _ p _ (fun x H4 => Q (.ref x) (.ref x) H4 n) ((sb2.trans sb3).trans (Sbut.of sp)) (S3.same sp) (show freshS H0 _ p = _ from fresh_get (fresh_none S3.s0 hp) upd_same) (S2.name8 he4 ht4).2 rfl (fun x H4 s4 S4 cm => q1 _ _ x H4 n (by rw [td, letters_ok he4 ht4 hc4]; rfl) (Nat.le_refl _) (by omega) s4 S4 cm)
  · refine ⟨_, rfl, cA K "BARE", _, rfl, .inr (T.tt_BARE _), rfl, by decide +kernel, _, rfl, ?_⟩
    rw [bare]
    refine if_no (show ([word "delete", word "keep", word "bring", word "trade", word "stop"] : List Bytes).contains (word "after") = false by decide +kernel) ?_
    refine ⟨_, rfl, cA K "WITH_LETTERS", _, rfl, .inr (T.tt_WITH_LETTERS _), rfl, by decide +kernel, _, rfl, ?_⟩
    rw [wlet]
    refine if_yes (show ([word "before", word "after", word "change"] : List Bytes).contains (word "after") = true by decide +kernel) ?_
    refine ⟨_, rfl, rd, dx, _, rfl, hrd, nl_Reader_take_word, _, rfl, H0, rd, tl, l, k, word "after", rfl, S, fun _ e2 H2 he2 sb2 S2 => ?_, fun z => absurd (z.symm.trans (nx "after")) (by rw [show (word "after" == word "after") = true from by decide +kernel]; exact Bool.false_ne_true)⟩
    obtain ⟨dx2, hrd2⟩ := S2.hr
    have td : takeDeed (restT l k) = (takeLetters (restT l (k + 1))).map fun x => (.after x.1, x.2) := by
      unfold Vaseda.takeDeed
      simp only [nx, dr]
      rfl
    obtain ⟨e3, he3, _, _, hrest3, _⟩ := S2.cur
    refine ⟨_, rfl, fun u1 h1 => ⟨_, rfl, fun u2 h2 => ?_⟩⟩
    refine ⟨_, rfl, rd, dx2, _, rfl, hrd2, nl_Reader_take_letters, H0, rd, tl, l, k + 1, rfl, S2, fun e4 nb4 he4 ht4 hc4 H3 sb3 S3 => ?_, fun h => q2 _ (by rw [td, letters_no he3 fun nb hn => h e3 nb he3 hn]; rfl)⟩
    intro us rs
    refine ⟨by show 1 ≤ sizeLine; decide, fun p hp us2 rs2 => ?_⟩
    have sp := (Same.refl H3).new (o := .lst [vS nb4]) hp
    exact mkC (.after nb4) (k + 2) _ p _ (fun x H4 => Q (.ref x) (.ref x) H4 n) ((sb2.trans sb3).trans (Sbut.of sp)) (S3.same sp) (show freshS H0 _ p = _ from fresh_get (fresh_none S3.s0 hp) upd_same) (S2.name8 he4 ht4).2 rfl (fun x H4 s4 S4 cm => q1 _ _ x H4 n (by rw [td, letters_ok he4 ht4 hc4]; rfl) (Nat.le_refl _) (by omega) s4 S4 cm)
  · refine ⟨_, rfl, cA K "BARE", _, rfl, .inr (T.tt_BARE _), rfl, by decide +kernel, _, rfl, ?_⟩
    rw [bare]
    refine if_no (show ([word "delete", word "keep", word "bring", word "trade", word "stop"] : List Bytes).contains (word "change") = false by decide +kernel) ?_
    refine ⟨_, rfl, cA K "WITH_LETTERS", _, rfl, .inr (T.tt_WITH_LETTERS _), rfl, by decide +kernel, _, rfl, ?_⟩
    rw [wlet]
    refine if_yes (show ([word "before", word "after", word "change"] : List Bytes).contains (word "change") = true by decide +kernel) ?_
    refine ⟨_, rfl, rd, dx, _, rfl, hrd, nl_Reader_take_word, _, rfl, H0, rd, tl, l, k, word "change", rfl, S, fun _ e2 H2 he2 sb2 S2 => ?_, fun z => absurd (z.symm.trans (nx "change")) (by rw [show (word "change" == word "change") = true from by decide +kernel]; exact Bool.false_ne_true)⟩
    obtain ⟨dx2, hrd2⟩ := S2.hr
    have td : takeDeed (restT l k) = (takeLetters (restT l (k + 1))).map fun x => (.change x.1, x.2) := by
      unfold Vaseda.takeDeed
      simp only [nx, dr]
      rfl
    obtain ⟨e3, he3, _, _, hrest3, _⟩ := S2.cur
    refine ⟨_, rfl, fun u1 h1 => ⟨_, rfl, fun u2 h2 => ?_⟩⟩
    refine ⟨_, rfl, rd, dx2, _, rfl, hrd2, nl_Reader_take_letters, H0, rd, tl, l, k + 1, rfl, S2, fun e4 nb4 he4 ht4 hc4 H3 sb3 S3 => ?_, fun h => q2 _ (by rw [td, letters_no he3 fun nb hn => h e3 nb he3 hn]; rfl)⟩
    intro us rs
    refine ⟨by show 1 ≤ sizeLine; decide, fun p hp us2 rs2 => ?_⟩
    have sp := (Same.refl H3).new (o := .lst [vS nb4]) hp
    exact mkC (.change nb4) (k + 2) _ p _ (fun x H4 => Q (.ref x) (.ref x) H4 n) ((sb2.trans sb3).trans (Sbut.of sp)) (S3.same sp) (show freshS H0 _ p = _ from fresh_get (fresh_none S3.s0 hp) upd_same) (S2.name8 he4 ht4).2 rfl (fun x H4 s4 S4 cm => q1 _ _ x H4 n (by rw [td, letters_ok he4 ht4 hc4]; rfl) (Nat.le_refl _) (by omega) s4 S4 cm)
  · refine ⟨_, rfl, cA K "BARE", _, rfl, .inr (T.tt_BARE _), rfl, by decide +kernel, _, rfl, ?_⟩
    rw [bare]
    refine if_no (show ([word "delete", word "keep", word "bring", word "trade", word "stop"] : List Bytes).contains (word "swap") = false by decide +kernel) ?_
    refine ⟨_, rfl, cA K "WITH_LETTERS", _, rfl, .inr (T.tt_WITH_LETTERS _), rfl, by decide +kernel, _, rfl, ?_⟩
    rw [wlet]
    refine if_no (show ([word "before", word "after", word "change"] : List Bytes).contains (word "swap") = false by decide +kernel) ?_
    refine ⟨_, rfl, cA K "WITH_TWO", _, rfl, .inr (T.tt_WITH_TWO _), rfl, by decide +kernel, _, rfl, ?_⟩
    rw [wtwo]
    refine if_yes (show ([word "swap", word "first"] : List Bytes).contains (word "swap") = true by decide +kernel) ?_
    refine ⟨_, rfl, rd, dx, _, rfl, hrd, nl_Reader_take_word, _, rfl, H0, rd, tl, l, k, word "swap", rfl, S, fun _ e2 H2 he2 sb2 S2 => ?_, fun z => absurd (z.symm.trans (nx "swap")) (by rw [show (word "swap" == word "swap") = true from by decide +kernel]; exact Bool.false_ne_true)⟩
    obtain ⟨dx2, hrd2⟩ := S2.hr
    have td : takeDeed (restT l k) = takeTwo .swap (restT l (k + 1)) := by
      unfold Vaseda.takeDeed
      simp only [nx, dr]
      rfl
    obtain ⟨e3, he3, _, _, hrest3, _⟩ := S2.cur
    refine ⟨rd, dx2, _, _, _, rfl, rfl, rfl, hrd2, nl_Reader_take_letters, H0, rd, tl, l, k + 1, rfl, S2, fun e4 nb4 he4 ht4 hc4 H3 sb3 S3 => ?_, fun h => q2 _ (by rw [td]; unfold Vaseda.takeTwo; rw [letters_no he3 fun nb hn => h e3 nb he3 hn]; rfl)⟩
    have tw : takeTwo .swap (restT l (k + 1)) = (takeInstead (restT l (k + 2))).map fun y => (.swap nb4 y.1, y.2) := by
      unfold Vaseda.takeTwo
      rw [letters_ok he4 ht4 hc4]
      rfl
    have k4 := dis.1 e4 (List.mem_of_getElem? he4) (by rw [ht4]; rfl)
    refine ⟨H0, rd, tl, l, k + 2, rfl, S3, fun b t k' H4 n' ti hb htok hn' hk' sb4 S4 => ?_, fun f hf => q2 f (by rw [td, tw, hf]; rfl)⟩
    have nt : t ≠ 0 ∧ e4.2.2 ≠ t := by
      rcases htok with z | ⟨e5, nb5, he5, ht5, rfl⟩
      · omega
      · have k5 := dis.1 e5 (List.mem_of_getElem? he5) (by rw [ht5]; rfl)
        have i4 := (List.getElem?_eq_some_iff.mp he4)
        have i5 := (List.getElem?_eq_some_iff.mp he5)
        obtain ⟨b4, i4⟩ := i4
        obtain ⟨b5, i5⟩ := i5
        have pw := List.pairwise_iff_getElem.mp dis.2 (k + 1) (k + 2) b4 b5 (by omega)
        rw [i4, i5] at pw
        exact ⟨by omega, pw (by rw [ht4]; rfl) (by rw [ht5]; rfl)⟩
    have e4n : e4.2.2 ≠ 0 := Nat.ne_of_gt k4.1
    refine ⟨sOf nb4, sOf b, e4.2.2, t, rfl, rfl, rfl, rfl, e4n, nt.1, nt.2, fun q o hq oc od => ?_⟩
    have sp := (Same.refl H4).new (o := .frz o (.lst [V.str (sOf nb4), V.str (sOf b)])) hq
    exact mkC (.swap nb4 b) k' _ q _ (fun x H5 => Q (.ref x) (.ref x) H5 n') (((sb2.trans sb3).trans sb4).trans (Sbut.of sp)) (S4.same sp) ⟨o, e4.2.2, t, 0, fresh_get (fresh_none S4.s0 hq) upd_same, oc, od, e4n, nt.1, nt.2⟩ ⟨(S2.name8 he4 ht4).1, (S2.name8 he4 ht4).2, hb⟩ rfl
      (fun x H5 s5 S5 cm => q1 _ _ x H5 n' (by rw [td, tw, ti]; rfl) hn' (by omega) s5 S5 cm)
  · refine ⟨_, rfl, cA K "BARE", _, rfl, .inr (T.tt_BARE _), rfl, by decide +kernel, _, rfl, ?_⟩
    rw [bare]
    refine if_no (show ([word "delete", word "keep", word "bring", word "trade", word "stop"] : List Bytes).contains (word "first") = false by decide +kernel) ?_
    refine ⟨_, rfl, cA K "WITH_LETTERS", _, rfl, .inr (T.tt_WITH_LETTERS _), rfl, by decide +kernel, _, rfl, ?_⟩
    rw [wlet]
    refine if_no (show ([word "before", word "after", word "change"] : List Bytes).contains (word "first") = false by decide +kernel) ?_
    refine ⟨_, rfl, cA K "WITH_TWO", _, rfl, .inr (T.tt_WITH_TWO _), rfl, by decide +kernel, _, rfl, ?_⟩
    rw [wtwo]
    refine if_yes (show ([word "swap", word "first"] : List Bytes).contains (word "first") = true by decide +kernel) ?_
    refine ⟨_, rfl, rd, dx, _, rfl, hrd, nl_Reader_take_word, _, rfl, H0, rd, tl, l, k, word "first", rfl, S, fun _ e2 H2 he2 sb2 S2 => ?_, fun z => absurd (z.symm.trans (nx "first")) (by rw [show (word "first" == word "first") = true from by decide +kernel]; exact Bool.false_ne_true)⟩
    obtain ⟨dx2, hrd2⟩ := S2.hr
    have td : takeDeed (restT l k) = takeTwo .first (restT l (k + 1)) := by
      unfold Vaseda.takeDeed
      simp only [nx, dr]
      rfl
    obtain ⟨e3, he3, _, _, hrest3, _⟩ := S2.cur
    refine ⟨rd, dx2, _, _, _, rfl, rfl, rfl, hrd2, nl_Reader_take_letters, H0, rd, tl, l, k + 1, rfl, S2, fun e4 nb4 he4 ht4 hc4 H3 sb3 S3 => ?_, fun h => q2 _ (by rw [td]; unfold Vaseda.takeTwo; rw [letters_no he3 fun nb hn => h e3 nb he3 hn]; rfl)⟩
    have tw : takeTwo .first (restT l (k + 1)) = (takeInstead (restT l (k + 2))).map fun y => (.first nb4 y.1, y.2) := by
      unfold Vaseda.takeTwo
      rw [letters_ok he4 ht4 hc4]
      rfl
    have k4 := dis.1 e4 (List.mem_of_getElem? he4) (by rw [ht4]; rfl)
    refine ⟨H0, rd, tl, l, k + 2, rfl, S3, fun b t k' H4 n' ti hb htok hn' hk' sb4 S4 => ?_, fun f hf => q2 f (by rw [td, tw, hf]; rfl)⟩
    have nt : t ≠ 0 ∧ e4.2.2 ≠ t := by
      rcases htok with z | ⟨e5, nb5, he5, ht5, rfl⟩
      · omega
      · have k5 := dis.1 e5 (List.mem_of_getElem? he5) (by rw [ht5]; rfl)
        have i4 := (List.getElem?_eq_some_iff.mp he4)
        have i5 := (List.getElem?_eq_some_iff.mp he5)
        obtain ⟨b4, i4⟩ := i4
        obtain ⟨b5, i5⟩ := i5
        have pw := List.pairwise_iff_getElem.mp dis.2 (k + 1) (k + 2) b4 b5 (by omega)
        rw [i4, i5] at pw
        exact ⟨by omega, pw (by rw [ht4]; rfl) (by rw [ht5]; rfl)⟩
    have e4n : e4.2.2 ≠ 0 := Nat.ne_of_gt k4.1
    refine ⟨sOf nb4, sOf b, e4.2.2, t, rfl, rfl, rfl, rfl, e4n, nt.1, nt.2, fun q o hq oc od => ?_⟩
    have sp := (Same.refl H4).new (o := .frz o (.lst [V.str (sOf nb4), V.str (sOf b)])) hq
    exact mkC (.first nb4 b) k' _ q _ (fun x H5 => Q (.ref x) (.ref x) H5 n') (((sb2.trans sb3).trans sb4).trans (Sbut.of sp)) (S4.same sp) ⟨o, e4.2.2, t, 0, fresh_get (fresh_none S4.s0 hq) upd_same, oc, od, e4n, nt.1, nt.2⟩ ⟨(S2.name8 he4 ht4).1, (S2.name8 he4 ht4).2, hb⟩ rfl
      (fun x H5 s5 S5 cm => q1 _ _ x H5 n' (by rw [td, tw, ti]; rfl) hn' (by omega) s5 S5 cm)
  · refine ⟨_, rfl, cA K "BARE", _, rfl, .inr (T.tt_BARE _), rfl, by decide +kernel, _, rfl, ?_⟩
    rw [bare]
    refine if_yes (show ([word "delete", word "keep", word "bring", word "trade", word "stop"] : List Bytes).contains (word "keep") = true by decide +kernel) ?_
    refine ⟨_, rfl, rd, dx, _, rfl, hrd, nl_Reader_take_word, _, rfl, H0, rd, tl, l, k, word "keep", rfl, S, fun _ e2 H2 he2 sb2 S2 => ?_, fun z => absurd (z.symm.trans (nx "keep")) (by rw [show (word "keep" == word "keep") = true from by decide +kernel]; exact Bool.false_ne_true)⟩
    obtain ⟨dx2, hrd2⟩ := S2.hr
    have td : takeDeed (restT l k) = .ok (.keep, restT l (k + 1)) := by
      unfold Vaseda.takeDeed
      simp only [nx, dr]
      rfl
    refine ⟨_, rfl, _, rfl, by show 0 ≤ sizeLine; decide, fun p hp => ?_⟩
    exact mkC .keep (k + 1) _ p _ (fun x H3 => ∀ u, L2.RelV (.ref x) u → Q u (.ref x) H3 n) (sb2.trans (Sbut.of ((Same.refl H2).new hp))) (S2.same ((Same.refl H2).new hp)) True.intro True.intro rfl (fun x H3 s3 S3 cm u hu => by
      cases hu
      exact q1 _ _ x H3 n td (Nat.le_refl _) (by omega) s3 S3 cm)
  · refine ⟨_, rfl, cA K "BARE", _, rfl, .inr (T.tt_BARE _), rfl, by decide +kernel, _, rfl, ?_⟩
    rw [bare]
    refine if_yes (show ([word "delete", word "keep", word "bring", word "trade", word "stop"] : List Bytes).contains (word "bring") = true by decide +kernel) ?_
    refine ⟨_, rfl, rd, dx, _, rfl, hrd, nl_Reader_take_word, _, rfl, H0, rd, tl, l, k, word "bring", rfl, S, fun _ e2 H2 he2 sb2 S2 => ?_, fun z => absurd (z.symm.trans (nx "bring")) (by rw [show (word "bring" == word "bring") = true from by decide +kernel]; exact Bool.false_ne_true)⟩
    obtain ⟨dx2, hrd2⟩ := S2.hr
    have td : takeDeed (restT l k) = .ok (.bring, restT l (k + 1)) := by
      unfold Vaseda.takeDeed
      simp only [nx, dr]
      rfl
    refine ⟨_, rfl, _, rfl, by show 0 ≤ sizeLine; decide, fun p hp => ?_⟩
    exact mkC .bring (k + 1) _ p _ (fun x H3 => ∀ u, L2.RelV (.ref x) u → Q u (.ref x) H3 n) (sb2.trans (Sbut.of ((Same.refl H2).new hp))) (S2.same ((Same.refl H2).new hp)) True.intro True.intro rfl (fun x H3 s3 S3 cm u hu => by
      cases hu
      exact q1 _ _ x H3 n td (Nat.le_refl _) (by omega) s3 S3 cm)
  · refine ⟨_, rfl, cA K "BARE", _, rfl, .inr (T.tt_BARE _), rfl, by decide +kernel, _, rfl, ?_⟩
    rw [bare]
    refine if_yes (show ([word "delete", word "keep", word "bring", word "trade", word "stop"] : List Bytes).contains (word "trade") = true by decide +kernel) ?_
    refine ⟨_, rfl, rd, dx, _, rfl, hrd, nl_Reader_take_word, _, rfl, H0, rd, tl, l, k, word "trade", rfl, S, fun _ e2 H2 he2 sb2 S2 => ?_, fun z => absurd (z.symm.trans (nx "trade")) (by rw [show (word "trade" == word "trade") = true from by decide +kernel]; exact Bool.false_ne_true)⟩
    obtain ⟨dx2, hrd2⟩ := S2.hr
    have td : takeDeed (restT l k) = .ok (.trade, restT l (k + 1)) := by
      unfold Vaseda.takeDeed
      simp only [nx, dr]
      rfl
    refine ⟨_, rfl, _, rfl, by show 0 ≤ sizeLine; decide, fun p hp => ?_⟩
    exact mkC .trade (k + 1) _ p _ (fun x H3 => ∀ u, L2.RelV (.ref x) u → Q u (.ref x) H3 n) (sb2.trans (Sbut.of ((Same.refl H2).new hp))) (S2.same ((Same.refl H2).new hp)) True.intro True.intro rfl (fun x H3 s3 S3 cm u hu => by
      cases hu
      exact q1 _ _ x H3 n td (Nat.le_refl _) (by omega) s3 S3 cm)
  · refine ⟨_, rfl, cA K "BARE", _, rfl, .inr (T.tt_BARE _), rfl, by decide +kernel, _, rfl, ?_⟩
    rw [bare]
    refine if_no (show ([word "delete", word "keep", word "bring", word "trade", word "stop"] : List Bytes).contains (word "skip") = false by decide +kernel) ?_
    refine ⟨_, rfl, cA K "WITH_LETTERS", _, rfl, .inr (T.tt_WITH_LETTERS _), rfl, by decide +kernel, _, rfl, ?_⟩
    rw [wlet]
    refine if_no (show ([word "before", word "after", word "change"] : List Bytes).contains (word "skip") = false by decide +kernel) ?_
    refine ⟨_, rfl, cA K "WITH_TWO", _, rfl, .inr (T.tt_WITH_TWO _), rfl, by decide +kernel, _, rfl, ?_⟩
    rw [wtwo]
    refine if_no (show ([word "swap", word "first"] : List Bytes).contains (word "skip") = false by decide +kernel) ?_
    refine ⟨_, rfl, rd, dx, _, rfl, hrd, nl_Reader_take_word, H0, rd, tl, l, k, word "skip", rfl, S, fun _ e2 H2 he2 sb2 S2 => ?_, fun z => absurd (z.symm.trans (nx "skip")) (by rw [show (word "skip" == word "skip") = true from by decide +kernel]; exact Bool.false_ne_true)⟩
    obtain ⟨dx2, hrd2⟩ := S2.hr
    have td : takeDeed (restT l k) = (takeNum 1 9 (restT l (k + 1))).map fun x => (.skip x.1, x.2) := by
      unfold Vaseda.takeDeed
      simp only [nx, dr]
      rfl
    refine ⟨_, rfl, by show 0 ≤ sizeLine; decide, fun p hp => ?_⟩
    have sp := (Same.refl H2).new (o := .lst []) hp
    have S3 := S2.same sp
    obtain ⟨dx3, hrd3⟩ := S3.hr
    refine ⟨_, rfl, rd, dx3, _, rfl, hrd3, nl_Reader_take_number, H0, rd, tl, l, k + 1, 1, 9, rfl, S3, fun m hm H4 sb4 S4 => ?_, fun f hf => q2 f (by rw [td, hf]; rfl)⟩
    have m9 : m ≤ 9 := by
      have he3 := S3.cur
      obtain ⟨⟨a3, ⟨pl, tok⟩, t3⟩, he3, _, _, hrest3, _⟩ := he3
      rw [hrest3] at hm
      cases tok with
      | num z =>
        have hm : (if z < 1 ∨ 9 < z then (.error ⟨7, pl⟩ : Except VasedBase.Fault (Nat × Toks)) else .ok (z, restT l (k + 1 + 1))) = _ := hm
        split at hm
        · cases hm
        · cases hm
          omega
      | name z => cases hm
      | sign z => cases hm
      | last => cases hm
    exact mkC (.skip m) (k + 2) _ p _ (fun x H3 => ∀ u, L2.RelV (.ref x) u → Q u (.ref x) H3 n) ((sb2.trans (Sbut.of sp)).trans sb4) S4 True.intro m9 rfl (fun x H5 s5 S5 cm u hu => by
      cases hu
      exact q1 _ _ x H5 n (by rw [td, hm]; rfl) (Nat.le_refl _) (by omega) s5 S5 cm)
  · refine ⟨_, rfl, cA K "BARE", _, rfl, .inr (T.tt_BARE _), rfl, by decide +kernel, _, rfl, ?_⟩
    rw [bare]
    refine if_yes (show ([word "delete", word "keep", word "bring", word "trade", word "stop"] : List Bytes).contains (word "stop") = true by decide +kernel) ?_
    refine ⟨_, rfl, rd, dx, _, rfl, hrd, nl_Reader_take_word, _, rfl, H0, rd, tl, l, k, word "stop", rfl, S, fun _ e2 H2 he2 sb2 S2 => ?_, fun z => absurd (z.symm.trans (nx "stop")) (by rw [show (word "stop" == word "stop") = true from by decide +kernel]; exact Bool.false_ne_true)⟩
    obtain ⟨dx2, hrd2⟩ := S2.hr
    have td : takeDeed (restT l k) = .ok (.halt_, restT l (k + 1)) := by
      unfold Vaseda.takeDeed
      simp only [nx, dr]
      rfl
    refine ⟨_, rfl, _, rfl, by show 0 ≤ sizeLine; decide, fun p hp => ?_⟩
    exact mkC .halt_ (k + 1) _ p _ (fun x H3 => ∀ u, L2.RelV (.ref x) u → Q u (.ref x) H3 n) (sb2.trans (Sbut.of ((Same.refl H2).new hp))) (S2.same ((Same.refl H2).new hp)) True.intro True.intro rfl (fun x H3 s3 S3 cm u hu => by
      cases hu
      exact q1 _ _ x H3 n td (Nat.le_refl _) (by omega) s3 S3 cm)
end
end Lp
end
section
set_option maxHeartbeats 4000000
/-! ### a command, a script -/
namespace Lp
open PySem PySem.Spec PyProof.Rows L2
open PySem.W (Frag)
open VasedBase (Bytes word PTok Toks next nextWord here takeWord takeSign tokEq RESERVED)
open Vaseda (takeDeed takeCmd takeCmds takeAddr Deed Cmd Script)
section
variable {P : Program} {w : World} {K : Frag} {mg : Str → Option Value} {base : Heap}
theorem CmAt.sbut {H0 H H' : Hp} {rd tl : Addr} {l : TkL} {k : Nat} {c : Addr} {cm : Cmd} (S : RdS K H0 H rd tl l k) (sb : Sbut rd H H') (h : CmAt K (freshS H0 H) c cm) : CmAt K (freshS H0 H') c cm := by
  obtain ⟨dx, a, l', h1, h2, h3, h4⟩ := h
  obtain ⟨d2, hr⟩ := S.hr
  have nrd : c ≠ rd := fun z => by
    have q := fresh_same H0 H _ _ h1
    rw [z, hr] at q
    have q := congrArg (fun o => match o with
      | some (HO.ins _ _ fs) => fs.length
      | _ => 0) q
    exact absurd q (by show ¬ (2 = 4); decide)
  have kp : ∀ {b : Addr} {o : HO}, (∀ C dx fs, o ≠ .ins C dx fs) → freshS H0 H b = some o → freshS H0 H' b = some o := fun {b o} ne e => freshS_sbut sb _ _ e fun z => by
    have q := fresh_same H0 H _ _ e
    rw [z, hr] at q
    cases q
    exact ne _ _ _ rfl
  refine ⟨dx, a, l', freshS_sbut sb _ _ h1 nrd, h2.sbut S sb, ?_, h4⟩
  cases hd : cm.d with
  | before w => rw [hd] at h3; exact kp (fun _ _ _ z => nomatch z) h3
  | after w => rw [hd] at h3; exact kp (fun _ _ _ z => nomatch z) h3
  | change w => rw [hd] at h3; exact kp (fun _ _ _ z => nomatch z) h3
  | swap x y =>
    rw [hd] at h3
    obtain ⟨o, t, u, n, e, r⟩ := h3
    exact ⟨o, t, u, n, kp (fun _ _ _ z => nomatch z) e, r⟩
  | first x y =>
    rw [hd] at h3
    obtain ⟨o, t, u, n, e, r⟩ := h3
    exact ⟨o, t, u, n, kp (fun _ _ _ z => nomatch z) e, r⟩
  | _ => exact True.intro
abbrev s_read_command : Stmt := topS 69
theorem sc_read_command : FnScope ["reader", "address", "found"] ["reader"] (defScope s_read_command) := ⟨rfl, rfl, rfl, by decide +kernel, rfl, by decide +kernel, by decide +kernel⟩
def spCommand (K : Frag) : Spc := fun vs H n Q E => ∃ (H0 : Hp) (rd tl : Addr) (l : TkL) (k : Nat), vs = [.ref rd] ∧ RdS K H0 H rd tl l k ∧ DisT 1 n l ∧ 1 ≤ n ∧
  (∀ cm k' c H' n', takeCmd (restT l k) = .ok (cm, restT l k') → n ≤ n' → k < k' → Sbut rd H H' → RdS K H0 H' rd tl l k' → CmAt K (freshS H0 H') c cm → Q (.ref c) (.ref c) H' n') ∧ (∀ f, takeCmd (restT l k) = .error f → FauE K E H0 f)
theorem ok_command (A : FnAt K mg "read_command" s_read_command ["reader"]) (T : Txt K mg)
    (D_Reader_ahead : Dm P w K mg base CX0 1 (cA K "Reader") "ahead" ["self"] (spAhead K))
    (D_Reader_is_word : Dm P w K mg base CX0 2 (cA K "Reader") "is_word" ["self", "word"] (spIsWord K))
    (D_Reader_take : Dm P w K mg base (L2.CX P w) 4 (cA K "Reader") "take" ["self", "good"] (spTake K))
    (D_Reader_take_word : Dm P w K mg base (L2.CX P w) 5 (cA K "Reader") "take_word" ["self", "word"] (spTakeWord K))
    (D_read_address : Dn P w K mg base (L2.CX P w) 7 "read_address" ["reader"] (spAddress K))
    (D_read_deed : DnC P w K mg base (L2.CX P w) 7 "read_deed" ["reader", "address"] (spDeed K))
    (D_Address : Dc P w K mg base 1 "Address" (cA K "Address") ["self", "word", "letters", "low", "high"] (spNewAddress K)) : DnC P w K mg base (L2.CX P w) 8 "read_command" ["reader"] (spCommand K) := A.dnC fun f fd F => by
  refine okC F sc_read_command (fun vs H n Q E h => ?_) (fun cdv A outer s H vs n Q E hr h => ?_)
  · obtain ⟨H0, rd, tl, l, k, rfl, _⟩ := h
    rfl
  obtain ⟨H0, rd, tl, l, k, rfl, S, dis, hn1, q1, q2⟩ := h
  refine ⟨_, (pssc_std (ps_set (i := 1) sc_read_command.nd rfl (Or.inl rfl) (pe_c D_Address (hr.mono (by decide)) (pa_cons pe_str (pa_cons pe_str (pa_cons pe_int (pa_cons pe_int pa_nil))))))
      (pssc_std (ps_if (pt_val (pe_m D_Reader_is_word T.cl_Reader (hr.mono (by decide)) pass0 (pv 0) (pa_cons pe_str pa_nil)))
      (pss_cons (ps_expr (pe_m D_Reader_take_word T.cl_Reader (hr.mono (by decide)) (passes_call (takes_of rfl rfl rfl rfl) (fun _ _ _ _ h => h)) (pv 0) (pa_cons pe_str pa_nil)))
      (pss_one (ps_set (i := 1) sc_read_command.nd rfl (Or.inl rfl) (pe_f D_read_address (hr.mono (by decide)) (passes_call (takes_of rfl rfl rfl rfl) (fun _ _ _ _ h => h)) (pa_cons (pv 0) pa_nil)))))
      pss_nil)
      (pssc_asg (pec_f D_read_deed (hr.mono (by decide)) (passes_call (takes_of rfl rfl rfl rfl) (fun _ _ _ _ h => h)) (PAc.of (pa_cons (pv 0) (pa_cons (pv 1) pa_nil)))) (pg_name (i := 2) sc_read_command.nd rfl (Or.inl rfl))
      (pssc_std (ps_expr (pe_m D_Reader_take T.cl_Reader (hr.mono (by decide)) (passes_call (takes_of rfl rfl rfl rfl) (fun _ _ _ _ h => h)) (pv 0) (pa_cons (pe_cmpR op_eq (pe_fldX (pe_m0 D_Reader_ahead T.cl_Reader (hr.mono (by decide)) pass0 (pv 0)) rfl) (pe_gint T.g_SIGN) (nomark _)) pa_nil)))
      (pssc_ret (PEc.of (pv 2))))))), ?_⟩
  intro x0 dx0 hx0 hdx0 hne0
  refine ⟨x0, dx0, _, _, _, _, rfl, upd_same, fun H1 sb1 h1 => ⟨rfl, ?_⟩⟩
  have s1 : Same H H1 := Same.but hx0 hdx0 sb1
  have S1 := S.same s1
  obtain ⟨dx, hrd⟩ := S1.hr
  obtain ⟨e, he, hv, tk, hrest, hlast⟩ := S1.cur
  have dr : (restT l k).drop 1 = restT l (k + 1) := by rw [hrest]; rfl
  have ll : (restT l k).length = l.length - k := by unfold restT specOf; rw [List.length_drop, List.length_map]
  have had : AdAt K (freshS H0 H1) x0 .all := ⟨dx0, by
    rw [show (adBase Vaseda.Addr.all).1 = word "all" from rfl, show (adBase Vaseda.Addr.all).2.1 = [] from rfl, ← w_str "all", ← w_nil]
    exact fresh_get (fresh_none S.s0 hx0) h1⟩
  refine ⟨_, rfl, rd, dx, _, rfl, hrd, nl_Reader_is_word, H0, rd, tl, l, k, word "if", rfl, S1, _, rfl, ?_⟩
  have after : ∀ (ad : Vaseda.Addr) (ar : Addr) (k1 : Nat) (H1 : Hp), k ≤ k1 → Sbut rd H H1 → RdS K H0 H1 rd tl l k1 → AdAt K (freshS H0 H1) ar ad →
      takeCmd (restT l k) = ((takeDeed (restT l k1)).bind fun d => (takeSign 59 d.2).map fun m => ((⟨ad, d.1⟩ : Cmd), m)) →
      cAsg (cF (spDeed K) E (cAr (tCons (tVar 0) (tCons (tVar 1) tNil)))) (gName 2)
        (cStd (tDrop (tM (cA K (Str.ofString "Reader")) (Str.ofString "take") (spTake K) E (tVar 0)
            (tCons (tOp rEq (tFldX K (tM (cA K (Str.ofString "Reader")) (Str.ofString "ahead") (spAhead K) E0 (tVar 0) tNil) (Str.ofString "kind")) (tC (V.int 2))) tNil)))
          (cRet (cE (tVar 2)))) { nx := fun x H' n' => Q Value.none V.non H' n', rt := Q } [some (.ref rd), some (.ref ar), none] H1 n := fun ad ar k1 H1 hk1 sb1 S1 had eq => by
    refine ⟨_, rfl, _, rfl, fun us rs => ⟨H0, rd, tl, l, k1, ar, ad, rfl, S1, had, dis, hn1, fun d k2 c H2 n2 td hn2 hk2 sb2 S2 cm => ?_, fun f hf => q2 f (by rw [eq, hf]; rfl)⟩⟩
    obtain ⟨dx2, hrd2⟩ := S2.hr
    obtain ⟨e2, he2, hv2, ⟨dy, uk, ut, un, up, XI, r1, r2, r3, r4⟩, hrest2, hlast2⟩ := S2.cur
    rw [td] at eq
    have eq : takeCmd (restT l k) = (takeSign 59 (restT l k2)).map fun m => ((⟨ad, d⟩ : Cmd), m) := eq
    refine ⟨_, rfl, rd, dx2, _, rfl, hrd2, nl_Reader_take, _, rfl, rd, dx2, _, rfl, hrd2, nl_Reader_ahead, H0, rd, tl, l, k2, rfl, S2, fun e3 he3 => ?_⟩
    obtain rfl := Option.some.inj (he2.symm.trans he3)
    refine ⟨e2.1, _, dy, _, uk, _, rfl, XI, T.cl_Token, T.na_Token_kind, tm_kind, r1, rfl, H0, rd, tl, l, k2, _, rfl, S2, ?_⟩
    have no : (∀ c, e2.2.1.tok ≠ .sign c) → decide (V.int (kdOf e2.2.1.tok) = V.int 2) = false ∧ FauE K E H0 ⟨3, here (restT l k2)⟩ := fun h => by
      refine ⟨decide_eq_false fun z => ?_, q2 _ ?_⟩
      · cases ht : e2.2.1.tok with
        | sign c => exact h c ht
        | name b => rw [ht] at z; exact absurd (V.int.inj z) (by show ¬ (0 : Int) = 2; decide)
        | num b => rw [ht] at z; exact absurd (V.int.inj z) (by show ¬ (1 : Int) = 2; decide)
        | last => rw [ht] at z; exact absurd (V.int.inj z) (by show ¬ (3 : Int) = 2; decide)
      · rw [eq]
        unfold VasedBase.takeSign VasedBase.taken
        rw [if_neg (by
          rw [hrest2, next_cons]
          cases ht : e2.2.1.tok with
          | sign c => exact absurd ht (h c)
          | name b => exact Bool.false_ne_true
          | num b => exact Bool.false_ne_true
          | last => exact Bool.false_ne_true)]
        rfl
    cases ht : e2.2.1.tok with
    | name b => rw [← ht, (no fun c z => nomatch ht.symm.trans z).1]; exact ⟨(fun z => nomatch z), fun _ => (no fun c z => nomatch ht.symm.trans z).2⟩
    | num b => rw [← ht, (no fun c z => nomatch ht.symm.trans z).1]; exact ⟨(fun z => nomatch z), fun _ => (no fun c z => nomatch ht.symm.trans z).2⟩
    | last => rw [← ht, (no fun c z => nomatch ht.symm.trans z).1]; exact ⟨(fun z => nomatch z), fun _ => (no fun c z => nomatch ht.symm.trans z).2⟩
    | sign c59 =>
      have ec := S2.wf.sg e2.2.1 (List.mem_map.mpr ⟨e2, List.mem_of_getElem? he2, rfl⟩) c59 ht
      subst ec
      have ts : takeSign 59 (restT l k2) = .ok (restT l (k2 + 1)) := by
        unfold VasedBase.takeSign VasedBase.taken
        rw [if_pos (by rw [hrest2, next_cons, ht]; rfl), hrest2]
        rfl
      rw [ts] at eq
      refine ⟨fun _ => ⟨fun e3 he3 z => ?_, fun e3 H3 he3 sb3 S3 => ⟨_, rfl, fun u hu => ?_⟩⟩, fun z => nomatch z⟩
      · obtain rfl := Option.some.inj (he2.symm.trans he3)
        rw [ht] at z
        cases z
      · cases hu
        exact q1 ⟨ad, d⟩ (k2 + 1) c H3 n2 eq hn2 (by omega) ((sb1.trans sb2).trans sb3) S3 (cm.sbut S2 sb3)
  have etc : takeCmd (restT l k) = (if nextWord "if" (restT l k) = true then takeAddr ((restT l k).length + 1) 0 (restT l (k + 1)) else .ok (Vaseda.Addr.all, restT l k)).bind fun a => (takeDeed a.2).bind fun d => (takeSign 59 d.2).map fun m => ((⟨a.1, d.1⟩ : Cmd), m) := by
    rw [← dr]
    rfl
  refine if_of (fun c => ?_) (fun c => ?_)
  · rw [if_pos (show nextWord "if" (restT l k) = true from c)] at etc
    refine ⟨_, rfl, rd, dx, _, rfl, hrd, nl_Reader_take_word, H0, rd, tl, l, k, word "if", rfl, S1, fun _ e2 H2 he2 sb2 S2 => ?_, fun z => absurd (z.symm.trans c) Bool.false_ne_true⟩
    have hkl := S2.kl
    refine ⟨_, rfl, H0, rd, tl, l, k + 1, (restT l k).length + 1, rfl, S2, by omega, fun a k' x H3 ta hk3 sb3 S3 hx3 hax => ?_, fun f hf => q2 f (by rw [etc, hf]; rfl)⟩
    exact after a x k' H3 (by omega) (((Sbut.of s1).trans sb2).trans sb3) S3 hax (by rw [etc, ta]; rfl)
  · rw [if_neg (by rw [show nextWord "if" (restT l k) = false from c]; exact Bool.false_ne_true)] at etc
    exact after .all x0 k H1 (Nat.le_refl _) (Sbut.of s1) S1 had etc
end
end Lp
end
section
set_option maxHeartbeats 4000000
/-! ### a script -/
namespace Lp
open PySem PySem.Spec PyProof.Rows L2
open PySem.W (Frag)
open VasedBase (Bytes word PTok Toks next nextWord here tokens tokEq RESERVED)
open Vaseda (takeCmd takeCmds Cmd Script)
theorem DisT.wide {n k k' : Nat} {l : TkL} (h : DisT n k l) (hk : k ≤ k') : DisT n k' l := ⟨fun e he nm => by have := h.1 e he nm; omega, h.2⟩
theorem freshS_put {H0 H : Hp} {F b : Addr} {o u : HO} (n : b ≠ F) (e : freshS H0 H b = some u) : freshS H0 (L2.upd H F o) b = some u := by
  unfold freshS at e ⊢
  cases h : H0 b with
  | none =>
    rw [h] at e
    show L2.upd H F o b = _
    rw [upd_ne n]
    exact e
  | some v => rw [h] at e; cases e
theorem CmAt.put {K : Frag} {H0 H : Hp} {F c : Addr} {o : HO} {cm : Cmd} {as : List Addr} (hF : H F = some (.lst (as.map V.ref))) (h : CmAt K (freshS H0 H) c cm) : CmAt K (freshS H0 (L2.upd H F o)) c cm := by
  obtain ⟨dx, a, l', h1, ⟨dx2, h2⟩, h3, h4⟩ := h
  have nF : ∀ {b : Addr} {u : HO}, freshS H0 H b = some u → u ≠ .lst (as.map V.ref) → b ≠ F := fun {b u} e ne z => by
    have q := fresh_same H0 H _ _ e
    rw [z, hF] at q
    exact ne (Option.some.inj q).symm
  have one : ∀ w : Bytes, (HO.lst [vS w]) ≠ .lst (as.map V.ref) := fun w z => by
    have z := HO.lst.inj z
    cases as with
    | nil => cases z
    | cons x r =>
      rw [List.map_cons] at z
      have := (List.cons.inj z).1
      cases this
  refine ⟨dx, a, l', freshS_put (nF h1 fun z => nomatch z) h1, ⟨dx2, freshS_put (nF h2 fun z => nomatch z) h2⟩, ?_, h4⟩
  cases hd : cm.d with
  | before w => rw [hd] at h3; exact freshS_put (nF h3 (one w)) h3
  | after w => rw [hd] at h3; exact freshS_put (nF h3 (one w)) h3
  | change w => rw [hd] at h3; exact freshS_put (nF h3 (one w)) h3
  | swap x y =>
    rw [hd] at h3
    obtain ⟨o, t, u, n, e, r⟩ := h3
    exact ⟨o, t, u, n, freshS_put (nF e fun z => nomatch z) e, r⟩
  | first x y =>
    rw [hd] at h3
    obtain ⟨o, t, u, n, e, r⟩ := h3
    exact ⟨o, t, u, n, freshS_put (nF e fun z => nomatch z) e, r⟩
  | _ => exact True.intro
theorem RdS.put {K : Frag} {H0 H : Hp} {rd tl F : Addr} {l : TkL} {k : Nat} {xs : List V} {o : HO} (S : RdS K H0 H rd tl l k) (hF : H F = some (.lst xs)) (h0 : H0 F = none) (ht : F ≠ tl) : RdS K H0 (L2.upd H F o) rd tl l k := by
  obtain ⟨dx, h⟩ := S.hr
  refine ⟨S.s0.mut h0, S.n0, ⟨dx, ?_⟩, ?_, fun e he => (S.tk e he).put hF, S.wf, S.kl, S.big⟩
  · rw [upd_ne (fun z => by rw [z, hF] at h; cases h)]
    exact h
  · rw [upd_ne (Ne.symm ht)]
    exact S.ht
section
variable {P : Program} {w : World} {K : Frag} {mg : Str → Option Value} {base : Heap}
abbrev s_read_script : Stmt := topS 70
theorem sc_read_script : FnScope ["data", "reader", "found"] ["data"] (defScope s_read_script) := ⟨rfl, rfl, rfl, by decide +kernel, rfl, by decide +kernel, by decide +kernel⟩
theorem ok_read (A : FnAt K mg "read_script" s_read_script ["data"]) (T : Txt K mg)
    (D_tokens_of : DnC P w K mg base (L2.CX P w) 5 "tokens_of" ["data"] (spTokens K))
    (D_Reader : Dc P w K mg base 1 "Reader" (cA K "Reader") ["self", "tokens"] (spNewReader K))
    (D_Reader_ahead : Dm P w K mg base CX0 1 (cA K "Reader") "ahead" ["self"] (spAhead K))
    (D_Reader_fail : Dm P w K mg base (L2.CX P w) 3 (cA K "Reader") "fail" ["self", "code"] (spFail K))
    (D_read_command : DnC P w K mg base (L2.CX P w) 8 "read_command" ["reader"] (spCommand K)) : Dn P w K mg base (L2.CX P w) 9 "read_script" ["data"] (spRead K) := A.dn fun f fd F => by
  refine okT F sc_read_script (by decide +kernel) (by decide) (fun vs H Q E h => ?_) (fun cdv A outer s H vs Q E hr h => ?_)
  · obtain ⟨a, b, rfl, _⟩ := h
    rfl
  obtain ⟨a, b, rfl, ha, hz, q1, q2⟩ := h
  refine ⟨_, (pssc_asg (pec_c D_Reader (hr.mono (by decide)) (pac_cons (pec_f D_tokens_of (hr.mono (by decide)) (passes_call (takes_of rfl rfl rfl rfl) (fun _ _ _ _ h => h)) (PAc.of (pa_cons (pv 0) pa_nil))) (PAc.of pa_nil))) (pg_name (i := 1) sc_read_script.nd rfl (Or.inl rfl))
      (pssc_std (ps_set (i := 2) sc_read_script.nd rfl (Or.inl rfl) (pe_lst pa_nil))
      (pssc_while (passes_of rfl) (pt_cmpR op_ne (pe_fldX (pe_m0 D_Reader_ahead T.cl_Reader (hr.mono (by decide)) pass0 (pv 1)) rfl) (pe_gint T.g_END) (nomark _))
      (pssc_std (ps_if (pt_cmpR op_eq (pe_callB call_len (by rfl) T.f_len PySem.boot_len (pa_cons (pv 2) pa_nil)) (pe_gint T.g_MOST_COMMANDS) (nomark _))
      (pss_one (ps_expr (pe_m D_Reader_fail T.cl_Reader (hr.mono (by decide)) (passes_call (takes_of rfl rfl rfl rfl) (fun _ _ _ _ h => h)) (pv 1) (pa_cons (pe_gint T.g_TOO_MANY) pa_nil))))
      pss_nil)
      (pssc_expr (pec_bm PySem.F.plainAttrs_list PySem.F.slot_list_append PySem.F.type_list_append mt_append (pv 2) (pac_cons (pec_f D_read_command (hr.mono (by decide)) (passes_call (takes_of rfl rfl rfl rfl) (fun _ _ _ _ h => h)) (PAc.of (pa_cons (pv 1) pa_nil))) (PAc.of pa_nil)))
      pssc_nil))
      (pssc_ret (PEc.of (pv 2)))))), ?_⟩
  refine ⟨_, rfl, fun us rs => ⟨a, b, rfl, ha, hz, fun ps hps tl l H1 n1 s1 htl hl1 hsp tk dis hn1 => ?_, fun f hf => q2 f (by unfold Vaseda.read; rw [hf]; rfl)⟩⟩
  intro us2 rs2 rd dx hrd0 hdx0 hne
  refine ⟨rd, dx, _, rfl, upd_same, fun H2 sb2 h2 => ⟨rfl, ?_⟩⟩
  have s2 : Same H1 H2 := Same.but hrd0 hdx0 sb2
  obtain ⟨wf, nn⟩ := tokens_wf hps
  have er : Vaseda.read b = takeCmds (ps.length + 1) [] ps := by unfold Vaseda.read; rw [hps]; rfl
  have lps : ps.length = l.length := by rw [← hsp]; unfold specOf; rw [List.length_map]
  have hl0 : 0 < l.length := by
    rw [← lps]
    exact Nat.pos_of_ne_zero fun z => nn (List.length_eq_zero_iff.mp z)
  have S : RdS K H H2 rd tl l 0 := ⟨s1.trans s2, s1.free hrd0, ⟨dx, h2⟩, s2 _ _ hl1, fun e he => (tk e he).mono s2, by rw [hsp]; exact wf, hl0, by have := tokens_len hps; omega⟩
  refine ⟨by show 0 ≤ sizeLine; decide, fun F0 hF0 => ?_⟩
  have hF1 : H F0 = none := S.s0.free hF0
  have hFt : F0 ≠ tl := fun z => by rw [z, S.ht] at hF0; cases hF0
  have S0 := S.same ((Same.refl H2).new (o := .lst []) hF0)
  refine ⟨fun m σ H' n' => ∃ (k : Nat) (cs : Script) (as : List Addr), σ = [some (.ref a), some (.ref rd), some (.ref F0)] ∧ RdS K H H' rd tl l k ∧ H' F0 = some (.lst (as.map V.ref)) ∧ Paired (fun c a => CmAt K (freshS H H') a c) cs as ∧ cs.length ≤ 16 ∧ DisT 1 n' l ∧ 1 ≤ n' ∧ l.length < m + k ∧
    Vaseda.read b = takeCmds m cs (restT l k), ⟨ps.length + 1, 0, [], [], rfl, S0, upd_same, .nil, Nat.zero_le _, dis, hn1, by omega, ?_⟩, ?_⟩
  · rw [er]
    unfold restT
    rw [List.drop_zero, hsp]
  rintro m σ H' n' ⟨k, cs, as, rfl, S', hF, hcs, hc16, dis', hn', hm, eq⟩
  obtain ⟨dx', hrd⟩ := S'.hr
  obtain ⟨e, he, hv, ⟨dy, uk, ut, un, up, XI, r1, r2, r3, r4⟩, hrest, hlast⟩ := S'.cur
  have kl := S'.kl
  obtain ⟨m, rfl⟩ : ∃ j, m = j + 1 := ⟨m - 1, by omega⟩
  have lcs := Paired.length hcs
  refine ⟨_, rfl, rd, dx', _, rfl, hrd, nl_Reader_ahead, H, rd, tl, l, k, rfl, S', fun e2 he2 => ?_⟩
  obtain rfl := Option.some.inj (he.symm.trans he2)
  refine ⟨e.1, _, dy, _, uk, _, rfl, XI, T.cl_Token, T.na_Token_kind, tm_kind, r1, rfl, _, rfl, ?_⟩
  have nl : next .last (restT l k) = decide (V.int (kdOf e.2.1.tok) = V.int 3) := by
    rw [hrest, next_cons]
    cases e.2.1.tok <;> rfl
  rw [← nl]
  cases hc : next .last (restT l k) with
  | true =>
    refine if_no rfl ⟨_, rfl, fun u hu => ?_⟩
    have er2 : Vaseda.read b = .ok cs := by rw [eq, Vaseda.takeCmds, if_pos hc]
    exact q1 cs er2 hc16 F0 H' S'.s0 ⟨as, fresh_get hF1 hF, hcs⟩
  | false =>
    rw [Vaseda.takeCmds, if_neg (by rw [hc]; exact Bool.false_ne_true)] at eq
    refine if_yes rfl ⟨_, fun _ _ _ z => z, ?_⟩
    refine ⟨_, rfl, _, as.length, rfl, .inl ⟨_, .of hF, by rw [List.length_map]⟩, rfl, _, rfl, ?_⟩
    by_cases c16 : cs.length = 16
    · rw [if_pos (show Vaseda.CMDS ≤ cs.length by show 16 ≤ cs.length; omega)] at eq
      refine if_yes (decide_eq_true (by rw [show as.length = 16 from by omega]; rfl)) ?_
      exact ⟨_, rfl, rd, dx', _, rfl, hrd, nl_Reader_fail, H, rd, tl, l, k, 4, rfl, S', q2 _ eq⟩
    · rw [if_neg (show ¬ Vaseda.CMDS ≤ cs.length by show ¬ 16 ≤ cs.length; omega)] at eq
      refine if_no (decide_eq_false fun z => c16 (by have := V.int.inj z; omega)) ?_
      refine ⟨_, rfl, .inl ⟨rfl, _, .of hF⟩, ?_⟩
      refine ⟨_, rfl, fun us3 rs3 => ⟨H, rd, tl, l, k, rfl, S', dis', hn', fun cm k' c H3 n3 tc hn3 hk3 sb3 S3 hcm => ?_, fun f hf => q2 f (by rw [eq, hf]; rfl)⟩⟩
      intro us4 rs4
      have nFrd : F0 ≠ rd := fun z => by rw [z, hrd] at hF; cases hF
      have hF3 := sb3 _ _ hF nFrd
      refine ⟨F0, _, _, rfl, rfl, hF3, small (by rw [List.length_map]; omega), fun u hu => ?_⟩
      have e5 : (as.map V.ref) ++ [V.ref c] = (as ++ [c]).map V.ref := by rw [List.map_append]; rfl
      refine ⟨m, Nat.lt_succ_self _, k', cs ++ [cm], as ++ [c], rfl, S3.put hF3 hF1 hFt, by rw [upd_same, e5], Paired.app (Paired.mapP hcs fun cm2 a2 h => (h.sbut S' sb3).put hF3) (.cons (hcm.put hF3) .nil), by rw [List.length_append]; show cs.length + 1 ≤ 16; omega, dis'.wide hn3, by omega, by omega, ?_⟩
      rw [eq, tc]
      rfl
end
end Lp
end
section
set_option maxHeartbeats 0
/-! ### the head: one kernel run, what it tells -/
namespace Lp
open PySem PySem.Spec PyProof.Rows L2 He
open PySem.W (Frag)
abbrev R : PySem.W.OpenSpec := PySem.Challenge.rw_linepatches_s01_answers
abbrev qv : Program := PySem.W.view R.prog [108]
def names0 : List PySem.Str := ["place_for", "put_to", "KEPT", "OUT", "IN", "commons", "least_patch", "cost_of", "turned_round", "cost_behind", "Change", "rows_of", "changes_of", "LETTERS", "FIRST_LETTER"]
def names1 : List PySem.Str := ["LAST_LETTER", "FIRST_DIGIT", "LAST_DIGIT", "SEMICOLON", "BLANKS", "REMARK", "LINE_END", "MOST_BYTES", "MOST_LETTERS_tokens", "MOST_NUMBER", "MOST_DIGITS", "WORD", "NUMBER", "SIGN", "END"]
def names2 : List PySem.Str := ["TOO_LONG", "NO_TOKEN", "Fault", "Token", "is_letter", "is_digit", "letters_of", "letters_end", "digits_end", "remark_end", "number_of", "word_at", "number_at", "token_at", "tokens_of"]
def names3 : List PySem.Str := ["OWN_WORDS", "ADDRESSES", "BARE", "WITH_LETTERS", "WITH_TWO", "CANNOT_STAND", "TOO_MANY", "OUT_OF_BOUNDS", "MOST_COMMANDS", "MOST_NOTS", "MOST_LINE", "MOST_SKIP", "Address", "Command", "Reader"]
def names4 : List PySem.Str := ["read_nots", "read_plain_address", "read_address", "read_second", "read_deed", "read_command", "read_script", "MOST_LETTERS_numbered", "is_told", "put_in_text", "commands_for", "script_for", "MOST_LETTERS_runs", "MOST_RESULT", "TooMuch"]
def names5 : List PySem.Str := ["Work", "Run", "do_letters", "result_of", "NO_SCRIPT", "BAD_TEXT", "NO_NUMBERED", "TOO_MUCH", "MOST_LETTERS_patches", "MOST_LINES", "ROWS", "LOAD", "Refused", "want", "bytes_of"]
def names6 : List PySem.Str := ["lines_of", "patch_told", "script_told", "text_told", "Desk", "drift", "both", "hunks", "of_texts", "told", "answer"]
def names : List PySem.Str := names0 ++ (names1 ++ (names2 ++ (names3 ++ (names4 ++ (names5 ++ (names6))))))
def faL : List Fa := [.int "KEPT" (0),
  .int "OUT" (1),
  .int "IN" (2),
  .str "LETTERS" "abcdefghijklmnopqrstuvwxyz",
  .int "FIRST_LETTER" (97),
  .int "LAST_LETTER" (122),
  .int "FIRST_DIGIT" (48),
  .int "LAST_DIGIT" (57),
  .int "SEMICOLON" (59),
  .glo "BLANKS",
  .int "REMARK" (35),
  .int "LINE_END" (10),
  .int "MOST_BYTES" (4096),
  .int "MOST_LETTERS_tokens" (8),
  .int "MOST_NUMBER" (1000000000),
  .int "MOST_DIGITS" (10),
  .int "WORD" (0),
  .int "NUMBER" (1),
  .int "SIGN" (2),
  .int "END" (3),
  .int "TOO_LONG" (1),
  .int "NO_TOKEN" (2),
  .glo "OWN_WORDS",
  .glo "ADDRESSES",
  .glo "BARE",
  .glo "WITH_LETTERS",
  .glo "WITH_TWO",
  .int "CANNOT_STAND" (3),
  .int "TOO_MANY" (4),
  .int "OUT_OF_BOUNDS" (7),
  .int "MOST_COMMANDS" (16),
  .int "MOST_NOTS" (3),
  .int "MOST_LINE" (99),
  .int "MOST_SKIP" (9),
  .int "MOST_LETTERS_numbered" (8),
  .int "MOST_LETTERS_runs" (16),
  .int "MOST_RESULT" (60),
  .int "NO_SCRIPT" (-1),
  .int "BAD_TEXT" (-4),
  .int "NO_NUMBERED" (-6),
  .int "TOO_MUCH" (-7),
  .int "MOST_LETTERS_patches" (16),
  .int "MOST_LINES" (24),
  .glo "ROWS",
  .int "LOAD" (0),
  .free "len",
  .free "range",
  .free "max",
  .free "min",
  .free "enumerate",
  .free "zip",
  .free "ord",
  .free "all",
  .free "int",
  .free "str",
  .free "ValueError",
  .glo "Change",
  .cls "Change",
  .noat "Change" "place",
  .noat "Change" "before",
  .noat "Change" "outs",
  .noat "Change" "ins",
  .noat "Change" "behind",
  .mkr "Change",
  .glo "Fault",
  .glo "Token",
  .cls "Token",
  .noat "Token" "kind",
  .noat "Token" "text",
  .noat "Token" "number",
  .noat "Token" "place",
  .mkr "Token",
  .glo "Address",
  .cls "Address",
  .noat "Address" "word",
  .noat "Address" "letters",
  .noat "Address" "low",
  .noat "Address" "high",
  .noat "Address" "nots",
  .mkr "Address",
  .glo "Command",
  .cls "Command",
  .noat "Command" "address",
  .noat "Command" "word",
  .noat "Command" "letters",
  .noat "Command" "number",
  .mkr "Command",
  .glo "Reader",
  .cls "Reader",
  .noat "Reader" "tokens",
  .noat "Reader" "at",
  .mkr "Reader",
  .glo "TooMuch",
  .glo "Work",
  .cls "Work",
  .noat "Work" "letters",
  .noat "Work" "number",
  .noat "Work" "is_last",
  .noat "Work" "put_ahead",
  .noat "Work" "put_behind",
  .noat "Work" "is_deleted",
  .noat "Work" "left_out",
  .noat "Work" "is_done",
  .mkr "Work",
  .glo "Run",
  .cls "Run",
  .noat "Run" "commands",
  .noat "Run" "held",
  .noat "Run" "came",
  .mkr "Run",
  .glo "Refused",
  .glo "Desk",
  .cls "Desk",
  .noat "Desk" "commands",
  .mkr "Desk",
  .glo "place_for",
  .glo "put_to",
  .glo "commons",
  .glo "least_patch",
  .glo "cost_of",
  .glo "turned_round",
  .glo "cost_behind",
  .meth "Change" "stands_at",
  .glo "rows_of",
  .glo "changes_of",
  .meth "Fault" "__init__",
  .glo "is_letter",
  .glo "is_digit",
  .glo "letters_of",
  .glo "letters_end",
  .glo "digits_end",
  .glo "remark_end",
  .glo "number_of",
  .glo "word_at",
  .glo "number_at",
  .glo "token_at",
  .glo "tokens_of",
  .meth "Reader" "ahead",
  .meth "Reader" "fail",
  .meth "Reader" "is_word",
  .meth "Reader" "take",
  .meth "Reader" "take_word",
  .meth "Reader" "take_letters",
  .meth "Reader" "take_number",
  .glo "read_nots",
  .glo "read_plain_address",
  .glo "read_address",
  .glo "read_second",
  .glo "read_deed",
  .glo "read_command",
  .glo "read_script",
  .glo "is_told",
  .glo "put_in_text",
  .glo "commands_for",
  .glo "script_for",
  .meth "Work" "lines",
  .meth "Work" "holds",
  .meth "Work" "holds_plain",
  .meth "Work" "put_letters",
  .meth "Run" "go_over",
  .meth "Run" "look_at",
  .meth "Run" "do",
  .meth "Run" "do_held",
  .glo "do_letters",
  .glo "result_of",
  .meth "Refused" "__init__",
  .glo "want",
  .glo "bytes_of",
  .glo "lines_of",
  .glo "patch_told",
  .glo "script_told",
  .glo "text_told",
  .meth "Desk" "load",
  .meth "Desk" "patch_of",
  .glo "drift",
  .glo "both",
  .glo "hunks",
  .glo "of_texts",
  .glo "told",
  .glo "answer",
  .glo "answers",
  .noat "Fault" "code",
  .noat "Fault" "place",
  .exm "Fault" "Fault" true,
  .noat "Refused" "number",
  .exm "Refused" "Refused" true,
  .exc "TooMuch",
  .exm "TooMuch" "TooMuch" true]
def fnL : List DefD := [⟨("place_for", none), "place_for", "place_for", defArgs s_place_for, defBody s_place_for, defScope s_place_for, [], []⟩,
  ⟨("put_to", none), "put_to", "put_to", defArgs s_put_to, defBody s_put_to, defScope s_put_to, [], []⟩,
  ⟨("commons", none), "commons", "commons", defArgs s_commons, defBody s_commons, defScope s_commons, [], []⟩,
  ⟨("least_patch", none), "least_patch", "least_patch", defArgs s_least_patch, defBody s_least_patch, defScope s_least_patch, [], []⟩,
  ⟨("cost_of", none), "cost_of", "cost_of", defArgs s_cost_of, defBody s_cost_of, defScope s_cost_of, [], []⟩,
  ⟨("turned_round", none), "turned_round", "turned_round", defArgs s_turned_round, defBody s_turned_round, defScope s_turned_round, [], []⟩,
  ⟨("cost_behind", none), "cost_behind", "cost_behind", defArgs s_cost_behind, defBody s_cost_behind, defScope s_cost_behind, [], []⟩,
  ⟨("Change", some "__init__"), "__init__", "Change.__init__", defArgs s_Change_init, defBody s_Change_init, defScope s_Change_init, [], []⟩,
  ⟨("Change", some "stands_at"), "stands_at", "Change.stands_at", defArgs s_Change_stands_at, defBody s_Change_stands_at, defScope s_Change_stands_at, [], []⟩,
  ⟨("rows_of", none), "rows_of", "rows_of", defArgs s_rows_of, defBody s_rows_of, defScope s_rows_of, [], []⟩,
  ⟨("changes_of", none), "changes_of", "changes_of", defArgs s_changes_of, defBody s_changes_of, defScope s_changes_of, [], []⟩,
  ⟨("Fault", some "__init__"), "__init__", "Fault.__init__", defArgs s_Fault_init, defBody s_Fault_init, defScope s_Fault_init, [], []⟩,
  ⟨("Token", some "__init__"), "__init__", "Token.__init__", defArgs s_Token_init, defBody s_Token_init, defScope s_Token_init, [], []⟩,
  ⟨("is_letter", none), "is_letter", "is_letter", defArgs s_is_letter, defBody s_is_letter, defScope s_is_letter, [], []⟩,
  ⟨("is_digit", none), "is_digit", "is_digit", defArgs s_is_digit, defBody s_is_digit, defScope s_is_digit, [], []⟩,
  ⟨("letters_of", none), "letters_of", "letters_of", defArgs s_letters_of, defBody s_letters_of, defScope s_letters_of, [], []⟩,
  ⟨("letters_end", none), "letters_end", "letters_end", defArgs s_letters_end, defBody s_letters_end, defScope s_letters_end, [], []⟩,
  ⟨("digits_end", none), "digits_end", "digits_end", defArgs s_digits_end, defBody s_digits_end, defScope s_digits_end, [], []⟩,
  ⟨("remark_end", none), "remark_end", "remark_end", defArgs s_remark_end, defBody s_remark_end, defScope s_remark_end, [], []⟩,
  ⟨("number_of", none), "number_of", "number_of", defArgs s_number_of, defBody s_number_of, defScope s_number_of, [], []⟩,
  ⟨("word_at", none), "word_at", "word_at", defArgs s_word_at, defBody s_word_at, defScope s_word_at, [], []⟩,
  ⟨("number_at", none), "number_at", "number_at", defArgs s_number_at, defBody s_number_at, defScope s_number_at, [], []⟩,
  ⟨("token_at", none), "token_at", "token_at", defArgs s_token_at, defBody s_token_at, defScope s_token_at, [], []⟩,
  ⟨("tokens_of", none), "tokens_of", "tokens_of", defArgs s_tokens_of, defBody s_tokens_of, defScope s_tokens_of, [], []⟩,
  ⟨("Address", some "__init__"), "__init__", "Address.__init__", defArgs s_Address_init, defBody s_Address_init, defScope s_Address_init, [], []⟩,
  ⟨("Command", some "__init__"), "__init__", "Command.__init__", defArgs s_Command_init, defBody s_Command_init, defScope s_Command_init, [], []⟩,
  ⟨("Reader", some "__init__"), "__init__", "Reader.__init__", defArgs s_Reader_init, defBody s_Reader_init, defScope s_Reader_init, [], []⟩,
  ⟨("Reader", some "ahead"), "ahead", "Reader.ahead", defArgs s_Reader_ahead, defBody s_Reader_ahead, defScope s_Reader_ahead, [], []⟩,
  ⟨("Reader", some "fail"), "fail", "Reader.fail", defArgs s_Reader_fail, defBody s_Reader_fail, defScope s_Reader_fail, [], []⟩,
  ⟨("Reader", some "is_word"), "is_word", "Reader.is_word", defArgs s_Reader_is_word, defBody s_Reader_is_word, defScope s_Reader_is_word, [], []⟩,
  ⟨("Reader", some "take"), "take", "Reader.take", defArgs s_Reader_take, defBody s_Reader_take, defScope s_Reader_take, [], []⟩,
  ⟨("Reader", some "take_word"), "take_word", "Reader.take_word", defArgs s_Reader_take_word, defBody s_Reader_take_word, defScope s_Reader_take_word, [], []⟩,
  ⟨("Reader", some "take_letters"), "take_letters", "Reader.take_letters", defArgs s_Reader_take_letters, defBody s_Reader_take_letters, defScope s_Reader_take_letters, [], []⟩,
  ⟨("Reader", some "take_number"), "take_number", "Reader.take_number", defArgs s_Reader_take_number, defBody s_Reader_take_number, defScope s_Reader_take_number, [], []⟩,
  ⟨("read_nots", none), "read_nots", "read_nots", defArgs s_read_nots, defBody s_read_nots, defScope s_read_nots, [], []⟩,
  ⟨("read_plain_address", none), "read_plain_address", "read_plain_address", defArgs s_read_plain_address, defBody s_read_plain_address, defScope s_read_plain_address, [], []⟩,
  ⟨("read_address", none), "read_address", "read_address", defArgs s_read_address, defBody s_read_address, defScope s_read_address, [], []⟩,
  ⟨("read_second", none), "read_second", "read_second", defArgs s_read_second, defBody s_read_second, defScope s_read_second, [], []⟩,
  ⟨("read_deed", none), "read_deed", "read_deed", defArgs s_read_deed, defBody s_read_deed, defScope s_read_deed, [], []⟩,
  ⟨("read_command", none), "read_command", "read_command", defArgs s_read_command, defBody s_read_command, defScope s_read_command, [], []⟩,
  ⟨("read_script", none), "read_script", "read_script", defArgs s_read_script, defBody s_read_script, defScope s_read_script, [], []⟩,
  ⟨("is_told", none), "is_told", "is_told", defArgs s_is_told, defBody s_is_told, defScope s_is_told, [], []⟩,
  ⟨("put_in_text", none), "put_in_text", "put_in_text", defArgs s_put_in_text, defBody s_put_in_text, defScope s_put_in_text, [], []⟩,
  ⟨("commands_for", none), "commands_for", "commands_for", defArgs s_commands_for, defBody s_commands_for, defScope s_commands_for, [], []⟩,
  ⟨("script_for", none), "script_for", "script_for", defArgs s_script_for, defBody s_script_for, defScope s_script_for, [], []⟩,
  ⟨("Work", some "__init__"), "__init__", "Work.__init__", defArgs s_Work_init, defBody s_Work_init, defScope s_Work_init, [], []⟩,
  ⟨("Work", some "lines"), "lines", "Work.lines", defArgs s_Work_lines, defBody s_Work_lines, defScope s_Work_lines, [], []⟩,
  ⟨("Work", some "holds"), "holds", "Work.holds", defArgs s_Work_holds, defBody s_Work_holds, defScope s_Work_holds, [], []⟩,
  ⟨("Work", some "holds_plain"), "holds_plain", "Work.holds_plain", defArgs s_Work_holds_plain, defBody s_Work_holds_plain, defScope s_Work_holds_plain, [], []⟩,
  ⟨("Work", some "put_letters"), "put_letters", "Work.put_letters", defArgs s_Work_put_letters, defBody s_Work_put_letters, defScope s_Work_put_letters, [], []⟩,
  ⟨("Run", some "__init__"), "__init__", "Run.__init__", defArgs s_Run_init, defBody s_Run_init, defScope s_Run_init, [], []⟩,
  ⟨("Run", some "go_over"), "go_over", "Run.go_over", defArgs s_Run_go_over, defBody s_Run_go_over, defScope s_Run_go_over, [], []⟩,
  ⟨("Run", some "look_at"), "look_at", "Run.look_at", defArgs s_Run_look_at, defBody s_Run_look_at, defScope s_Run_look_at, [], []⟩,
  ⟨("Run", some "do"), "do", "Run.do", defArgs s_Run_do, defBody s_Run_do, defScope s_Run_do, [], []⟩,
  ⟨("Run", some "do_held"), "do_held", "Run.do_held", defArgs s_Run_do_held, defBody s_Run_do_held, defScope s_Run_do_held, [], []⟩,
  ⟨("do_letters", none), "do_letters", "do_letters", defArgs s_do_letters, defBody s_do_letters, defScope s_do_letters, [], []⟩,
  ⟨("result_of", none), "result_of", "result_of", defArgs s_result_of, defBody s_result_of, defScope s_result_of, [], []⟩,
  ⟨("Refused", some "__init__"), "__init__", "Refused.__init__", defArgs s_Refused_init, defBody s_Refused_init, defScope s_Refused_init, [], []⟩,
  ⟨("want", none), "want", "want", defArgs s_want, defBody s_want, defScope s_want, [], []⟩,
  ⟨("bytes_of", none), "bytes_of", "bytes_of", defArgs s_bytes_of, defBody s_bytes_of, defScope s_bytes_of, [], []⟩,
  ⟨("lines_of", none), "lines_of", "lines_of", defArgs s_lines_of, defBody s_lines_of, defScope s_lines_of, [], []⟩,
  ⟨("patch_told", none), "patch_told", "patch_told", defArgs s_patch_told, defBody s_patch_told, defScope s_patch_told, [], []⟩,
  ⟨("script_told", none), "script_told", "script_told", defArgs s_script_told, defBody s_script_told, defScope s_script_told, [], []⟩,
  ⟨("text_told", none), "text_told", "text_told", defArgs s_text_told, defBody s_text_told, defScope s_text_told, [], []⟩,
  ⟨("Desk", some "__init__"), "__init__", "Desk.__init__", defArgs s_Desk_init, defBody s_Desk_init, defScope s_Desk_init, [], []⟩,
  ⟨("Desk", some "load"), "load", "Desk.load", defArgs s_Desk_load, defBody s_Desk_load, defScope s_Desk_load, [], []⟩,
  ⟨("Desk", some "patch_of"), "patch_of", "Desk.patch_of", defArgs s_Desk_patch_of, defBody s_Desk_patch_of, defScope s_Desk_patch_of, [], []⟩,
  ⟨("drift", none), "drift", "drift", defArgs s_drift, defBody s_drift, defScope s_drift, [], []⟩,
  ⟨("both", none), "both", "both", defArgs s_both, defBody s_both, defScope s_both, [], []⟩,
  ⟨("hunks", none), "hunks", "hunks", defArgs s_hunks, defBody s_hunks, defScope s_hunks, [], []⟩,
  ⟨("of_texts", none), "of_texts", "of_texts", defArgs s_of_texts, defBody s_of_texts, defScope s_of_texts, [], []⟩,
  ⟨("told", none), "told", "told", defArgs s_told, defBody s_told, defScope s_told, [], []⟩,
  ⟨("answer", none), "answer", "answer", defArgs s_answer, defBody s_answer, defScope s_answer, [], []⟩,
  ⟨("answers", none), "answers", "answers", defArgs s_answers, defBody s_answers, defScope s_answers, [], []⟩]
/-- an error class that is made by its own __init__ -/
def oexB (K : Frag) (C : Addr) : Bool := (match K.lookup C with
    | some ⟨.type "type", _, .cls cd, sl⟩ => (match cd.mro, sl.toList with
      | .ref C' :: bm, [_, _, _, _, some (.builtin n), _] => C' == C && n == "ValueError.__new__" && !cd.hasDel && cd.hasDict && PySem.HandSPX.refsVE bm
      | _, _ => false)
    | _ => false) &&
  (decide (PySem.W.findIn K (.ref C) "__setattr__" = some (some (.builtin "object.__setattr__"))) && (decide (PySem.W.subIn K (.ref C) (.type "BaseException") = some true) && (decide (PySem.W.typeIn K (.ref C) = some (.type "type")) && PySem.W.keepIn K (.ref C))))
theorem oexB_ok {K : Frag} {C : Addr} (q : oexB K C = true) : OexC K C := by
  unfold oexB at q
  obtain ⟨q, h⟩ := ba q
  obtain ⟨h1, h⟩ := ba h
  obtain ⟨h2, h⟩ := ba h
  obtain ⟨h3, h4⟩ := ba h
  refine ⟨?_, of_decide_eq_true h1, of_decide_eq_true h2, of_decide_eq_true h3, h4⟩
  split at q
  · rename_i dd cd sl ho
    split at q
    · rename_i C' bm k0 k1 k2 k3 n k5 hm hs
      simp only [Bool.and_eq_true, beq_iff_eq, Bool.not_eq_true'] at q
      obtain ⟨⟨⟨⟨rfl, rfl⟩, hdel⟩, hdi⟩, ht⟩ := q
      obtain ⟨nm, bs, mro, ns, qn, hd, sn, sub, ab, col, del⟩ := cd
      dsimp only at hm hdel hdi
      subst hm hdel hdi
      have hsl : sl = #[k0, k1, k2, k3, some (.builtin "ValueError.__new__"), k5] := by
        obtain ⟨l⟩ := sl
        simp only at hs
        rw [hs]
      subst hsl
      exact ⟨nm, qn, ns, bs, bm, sn, sub, ab, col, dd, k0, k1, k2, k3, k5, ho, ht⟩
    · cases q
  · cases q
def strKeyB (e : DictEntry) : Bool := match e.key with
  | .str _ _ => true
  | _ => false
/-- no reader has booked a token -/
def bookB (K : Frag) : Bool := match K.lookup cStatics with
  | some ⟨_, _, .dict es _, _⟩ => es.all strKeyB && (nsFind es sharingNotToldKey).isNone
  | _ => false
theorem bookB_ok {K : Frag} (q : bookB K = true) : NBk K := fun h KX => by
  unfold bookB at q
  cases e : K.lookup cStatics with
  | none => rw [e] at q; cases q
  | some o =>
    obtain ⟨oc, od, dt, sl⟩ := o
    rw [e] at q
    cases dt with
    | dict es ep =>
      obtain ⟨h1, h2⟩ := ba (show (es.all strKeyB && (nsFind es sharingNotToldKey).isNone) = true from q)
      refine ⟨fun y => nsFind es y, ⟨_, es, ep, KX _ _ e, rfl, fun x hx => ?_, fun _ => rfl⟩, Option.isNone_iff_eq_none.mp h2⟩
      have := Array.all_eq_true'.mp h1 x hx
      unfold strKeyB at this
      split at this
      · rename_i n t hk
        exact ⟨n, t, hk⟩
      · cases this
    | _ => cases q
def vVB (K : Frag) : Bool := match PySem.W.findCls K (.type "ValueError") (.type "type") "__init__" with
  | some (.val (.builtin n)) => n == "ValueError.__init__"
  | _ => false
theorem vVB_ok {K : Frag} (q : vVB K = true) : PySem.W.findCls K (.type "ValueError") (.type "type") "__init__" = some (.val (.builtin "ValueError.__init__")) := by
  unfold vVB at q
  split at q
  · rename_i n e
    rw [e, eq_of_beq q]
  · cases q
def exL (K : Frag) : Bool := bookB K && (vVB K && (oexB K (ga K "Fault") && (xfB K (ga K "Fault") && (oexB K (ga K "Refused") && (xfB K (ga K "Refused") && (tupB K "BLANKS" [.int 32, .int 9, .int 10] && (tupB K "OWN_WORDS" [.str "if", .str "all", .str "line", .str "from", .str "to", .str "last", .str "has", .str "is", .str "not", .str "delete", .str "before", .str "after", .str "change", .str "swap", .str "first", .str "keep", .str "bring", .str "trade", .str "skip", .str "stop", .str "none"] && (tupB K "ADDRESSES" [.str "all", .str "line", .str "from", .str "last", .str "has", .str "is"] && (tupB K "BARE" [.str "delete", .str "keep", .str "bring", .str "trade", .str "stop"] && (tupB K "WITH_LETTERS" [.str "before", .str "after", .str "change"] && (tupB K "WITH_TWO" [.str "swap", .str "first"] && (tupB K "ROWS" [.int 1, .int 2, .int 1, .int 2, .int 1, .int 3, .int 3, .int 2]))))))))))))
/-! the Hook -/
/-- what the module's names lead to: a def's code, a class's dict, its methods -/
def subL (o : Obj) : List Addr := match o.data with
  | .func fd => refV fd.code
  | .cls cd => [cd.ns]
  | _ => []
def inL (o : Obj) : List Addr := match o.data with
  | .dict es _ => es.toList.flatMap fun e => refV e.val
  | _ => []
def viaL (g : Addr → Option Obj) (f : Obj → List Addr) (as : List Addr) : List Addr := as.flatMap fun a => match g a with
  | some o => f o
  | none => []
def asL (g : Addr → Option Obj) : List Addr :=
  mainGlobals :: (viaL g inL [mainGlobals] ++ (viaL g subL (viaL g inL [mainGlobals]) ++ (viaL g inL (viaL g subL (viaL g inL [mainGlobals])) ++ (viaL g subL (viaL g inL (viaL g subL (viaL g inL [mainGlobals]))) ++ [cStatics]))))
def frL (g : Addr → Option Obj) : Frag := frG g (asL g)
def seeF (K : Frag) : List DefD → List FnW
  | [] => []
  | d :: r => fnW K d.at_ :: seeF K r
def wantF : List DefD → List FnW
  | [] => []
  | d :: r => some (d.name, d.qual, d.params, .stmts d.body, d.scope, mainGlobals, [], builtinsNs) :: wantF r
theorem seeF_ok {K : Frag} : ∀ {l : List DefD}, seeF K l = wantF l → ∀ d ∈ l, fnW K d.at_ = d.val
  | d :: r, e, x, hx => by
    have e := List.cons.inj e
    rcases List.mem_cons.mp hx with rfl | hx
    · exact e.1
    · exact seeF_ok e.2 x hx
def boolL (K : Frag) : Bool := (faL.all fun f => f.ok K) && ((fnL.all fun d => d.ok K) && exL K)
abbrev AlL : Type := Bool × List FnW
def obsL (g : Addr → Option Obj) : AlL := (boolL (frL g), seeF (frL g) fnL)
def valL : AlL := (true, wantF fnL)
structure SaysL (K : Frag) : Prop where
  fa : ∀ f ∈ faL, f.ok K = true
  ok : ∀ d ∈ fnL, d.ok K = true
  ex : exL K = true
  fn : ∀ d ∈ fnL, fnW K d.at_ = d.val
theorem saysL_of {K : Frag} (h1 : boolL K = true) (h2 : seeF K fnL = wantF fnL) : SaysL K := by
  obtain ⟨a, h⟩ := ba h1
  obtain ⟨b, c⟩ := ba h
  exact ⟨List.all_eq_true.mp a, List.all_eq_true.mp b, c, seeF_ok h2⟩
def hookL : PySem.W.Hook where
  α := AlL
  obs := fun s => obsL s.heap.get?
  val := fun _ => valL
  says := fun _ h => ∃ K : Frag, K.In h ∧ SaysL K
  of := fun _ _ e => ⟨_, frG_in, saysL_of (congrArg (fun z : AlL => z.1) e) (congrArg (fun z : AlL => z.2) e)⟩
  keeps := fun _ _ _ ⟨K, hK, c⟩ k => ⟨K, PySem.W.Frag.In.keeps hK k, c⟩

end Lp
end
section
set_option maxHeartbeats 4000000
/-! ### what the run tells -/
namespace Lp
open PySem PySem.Spec PyProof.Rows L2 He
open PySem.W (Frag)
section
variable {K : Frag} {mg : Str → Option Value} {h : Heap}
theorem fa_at (c : SaysL K) (i : Nat) (f : Fa) (e : faL[i]? = some f) : f.ok K = true := c.fa f (List.mem_of_getElem? e)
theorem fn_at (c : SaysL K) (i : Nat) (d : DefD) (e : fnL[i]? = some d) : ∃ fd, FunD K d.name d.qual d.params d.body d.scope (d.dvs K) (d.kws K) (fAd K d.at_) fd :=
  DefD.funD (c.fn d (List.mem_of_getElem? e)) (c.ok d (List.mem_of_getElem? e))
structure ExL (K : Frag) : Prop where
  nb : NBk K
  vv : PySem.W.findCls K (.type "ValueError") (.type "type") "__init__" = some (.val (.builtin "ValueError.__init__"))
  o1 : OexC K (cA K "Fault")
  x1 : XfC K (cA K "Fault")
  o2 : OexC K (cA K "Refused")
  x2 : XfC K (cA K "Refused")
  t_BLANKS : ∀ H : Hp, SqT K H (cA K "BLANKS") [.int 32, .int 9, .int 10]
  t_OWN_WORDS : ∀ H : Hp, SqT K H (cA K "OWN_WORDS") [.str "if", .str "all", .str "line", .str "from", .str "to", .str "last", .str "has", .str "is", .str "not", .str "delete", .str "before", .str "after", .str "change", .str "swap", .str "first", .str "keep", .str "bring", .str "trade", .str "skip", .str "stop", .str "none"]
  t_ADDRESSES : ∀ H : Hp, SqT K H (cA K "ADDRESSES") [.str "all", .str "line", .str "from", .str "last", .str "has", .str "is"]
  t_BARE : ∀ H : Hp, SqT K H (cA K "BARE") [.str "delete", .str "keep", .str "bring", .str "trade", .str "stop"]
  t_WITH_LETTERS : ∀ H : Hp, SqT K H (cA K "WITH_LETTERS") [.str "before", .str "after", .str "change"]
  t_WITH_TWO : ∀ H : Hp, SqT K H (cA K "WITH_TWO") [.str "swap", .str "first"]
  t_ROWS : ∀ H : Hp, SqT K H (cA K "ROWS") [.int 1, .int 2, .int 1, .int 2, .int 1, .int 3, .int 3, .int 2]
theorem exL_ok (q : exL K = true) : ExL K := by
  unfold exL at q
  obtain ⟨h1, q⟩ := ba q
  obtain ⟨h2, q⟩ := ba q
  obtain ⟨h3, q⟩ := ba q
  obtain ⟨h4, q⟩ := ba q
  obtain ⟨h5, q⟩ := ba q
  obtain ⟨h6, q⟩ := ba q
  obtain ⟨t0, q⟩ := ba q
  obtain ⟨t1, q⟩ := ba q
  obtain ⟨t2, q⟩ := ba q
  obtain ⟨t3, q⟩ := ba q
  obtain ⟨t4, q⟩ := ba q
  obtain ⟨t5, q⟩ := ba q
  exact ⟨bookB_ok h1, vVB_ok h2, oexB_ok h3, xfB_ok h4, oexB_ok h5, xfB_ok h6, fun H => tupB_ok t0 H, fun H => tupB_ok t1 H, fun H => tupB_ok t2 H, fun H => tupB_ok t3 H, fun H => tupB_ok t4 H, fun H => tupB_ok t5 H, fun H => tupB_ok q H⟩
theorem txt_of (X : K.In h) (G : h.Ns mainGlobals mg) (c : SaysL K) : Txt K mg where
  g_KEPT := int_ok X G (fa_at c 0 (.int "KEPT" (0)) rfl)
  g_OUT := int_ok X G (fa_at c 1 (.int "OUT" (1)) rfl)
  g_IN := int_ok X G (fa_at c 2 (.int "IN" (2)) rfl)
  g_LETTERS := str_ok X G (fa_at c 3 (.str "LETTERS" "abcdefghijklmnopqrstuvwxyz") rfl)
  g_FIRST_LETTER := int_ok X G (fa_at c 4 (.int "FIRST_LETTER" (97)) rfl)
  g_LAST_LETTER := int_ok X G (fa_at c 5 (.int "LAST_LETTER" (122)) rfl)
  g_FIRST_DIGIT := int_ok X G (fa_at c 6 (.int "FIRST_DIGIT" (48)) rfl)
  g_LAST_DIGIT := int_ok X G (fa_at c 7 (.int "LAST_DIGIT" (57)) rfl)
  g_SEMICOLON := int_ok X G (fa_at c 8 (.int "SEMICOLON" (59)) rfl)
  g_BLANKS := glo_ok X G (fa_at c 9 (.glo "BLANKS") rfl)
  tt_BLANKS := (exL_ok c.ex).t_BLANKS
  g_REMARK := int_ok X G (fa_at c 10 (.int "REMARK" (35)) rfl)
  g_LINE_END := int_ok X G (fa_at c 11 (.int "LINE_END" (10)) rfl)
  g_MOST_BYTES := int_ok X G (fa_at c 12 (.int "MOST_BYTES" (4096)) rfl)
  g_MOST_LETTERS_tokens := int_ok X G (fa_at c 13 (.int "MOST_LETTERS_tokens" (8)) rfl)
  g_MOST_NUMBER := int_ok X G (fa_at c 14 (.int "MOST_NUMBER" (1000000000)) rfl)
  g_MOST_DIGITS := int_ok X G (fa_at c 15 (.int "MOST_DIGITS" (10)) rfl)
  g_WORD := int_ok X G (fa_at c 16 (.int "WORD" (0)) rfl)
  g_NUMBER := int_ok X G (fa_at c 17 (.int "NUMBER" (1)) rfl)
  g_SIGN := int_ok X G (fa_at c 18 (.int "SIGN" (2)) rfl)
  g_END := int_ok X G (fa_at c 19 (.int "END" (3)) rfl)
  g_TOO_LONG := int_ok X G (fa_at c 20 (.int "TOO_LONG" (1)) rfl)
  g_NO_TOKEN := int_ok X G (fa_at c 21 (.int "NO_TOKEN" (2)) rfl)
  g_OWN_WORDS := glo_ok X G (fa_at c 22 (.glo "OWN_WORDS") rfl)
  tt_OWN_WORDS := (exL_ok c.ex).t_OWN_WORDS
  g_ADDRESSES := glo_ok X G (fa_at c 23 (.glo "ADDRESSES") rfl)
  tt_ADDRESSES := (exL_ok c.ex).t_ADDRESSES
  g_BARE := glo_ok X G (fa_at c 24 (.glo "BARE") rfl)
  tt_BARE := (exL_ok c.ex).t_BARE
  g_WITH_LETTERS := glo_ok X G (fa_at c 25 (.glo "WITH_LETTERS") rfl)
  tt_WITH_LETTERS := (exL_ok c.ex).t_WITH_LETTERS
  g_WITH_TWO := glo_ok X G (fa_at c 26 (.glo "WITH_TWO") rfl)
  tt_WITH_TWO := (exL_ok c.ex).t_WITH_TWO
  g_CANNOT_STAND := int_ok X G (fa_at c 27 (.int "CANNOT_STAND" (3)) rfl)
  g_TOO_MANY := int_ok X G (fa_at c 28 (.int "TOO_MANY" (4)) rfl)
  g_OUT_OF_BOUNDS := int_ok X G (fa_at c 29 (.int "OUT_OF_BOUNDS" (7)) rfl)
  g_MOST_COMMANDS := int_ok X G (fa_at c 30 (.int "MOST_COMMANDS" (16)) rfl)
  g_MOST_NOTS := int_ok X G (fa_at c 31 (.int "MOST_NOTS" (3)) rfl)
  g_MOST_LINE := int_ok X G (fa_at c 32 (.int "MOST_LINE" (99)) rfl)
  g_MOST_SKIP := int_ok X G (fa_at c 33 (.int "MOST_SKIP" (9)) rfl)
  g_MOST_LETTERS_numbered := int_ok X G (fa_at c 34 (.int "MOST_LETTERS_numbered" (8)) rfl)
  g_MOST_LETTERS_runs := int_ok X G (fa_at c 35 (.int "MOST_LETTERS_runs" (16)) rfl)
  g_MOST_RESULT := int_ok X G (fa_at c 36 (.int "MOST_RESULT" (60)) rfl)
  g_NO_SCRIPT := int_ok X G (fa_at c 37 (.int "NO_SCRIPT" (-1)) rfl)
  g_BAD_TEXT := int_ok X G (fa_at c 38 (.int "BAD_TEXT" (-4)) rfl)
  g_NO_NUMBERED := int_ok X G (fa_at c 39 (.int "NO_NUMBERED" (-6)) rfl)
  g_TOO_MUCH := int_ok X G (fa_at c 40 (.int "TOO_MUCH" (-7)) rfl)
  g_MOST_LETTERS_patches := int_ok X G (fa_at c 41 (.int "MOST_LETTERS_patches" (16)) rfl)
  g_MOST_LINES := int_ok X G (fa_at c 42 (.int "MOST_LINES" (24)) rfl)
  g_ROWS := glo_ok X G (fa_at c 43 (.glo "ROWS") rfl)
  tt_ROWS := (exL_ok c.ex).t_ROWS
  g_LOAD := int_ok X G (fa_at c 44 (.int "LOAD" (0)) rfl)
  f_len := free_ok X G (fa_at c 45 (.free "len") rfl)
  f_range := free_ok X G (fa_at c 46 (.free "range") rfl)
  f_max := free_ok X G (fa_at c 47 (.free "max") rfl)
  f_min := free_ok X G (fa_at c 48 (.free "min") rfl)
  f_enumerate := free_ok X G (fa_at c 49 (.free "enumerate") rfl)
  f_zip := free_ok X G (fa_at c 50 (.free "zip") rfl)
  f_ord := free_ok X G (fa_at c 51 (.free "ord") rfl)
  f_all := free_ok X G (fa_at c 52 (.free "all") rfl)
  f_int := free_ok X G (fa_at c 53 (.free "int") rfl)
  f_str := free_ok X G (fa_at c 54 (.free "str") rfl)
  f_ValueError := free_ok X G (fa_at c 55 (.free "ValueError") rfl)
  cl_Change := cls_ok (fa_at c 57 (.cls "Change") rfl)
  na_Change_place := noat_ok (fa_at c 58 (.noat "Change" "place") rfl)
  na_Change_before := noat_ok (fa_at c 59 (.noat "Change" "before") rfl)
  na_Change_outs := noat_ok (fa_at c 60 (.noat "Change" "outs") rfl)
  na_Change_ins := noat_ok (fa_at c 61 (.noat "Change" "ins") rfl)
  na_Change_behind := noat_ok (fa_at c 62 (.noat "Change" "behind") rfl)
  cl_Token := cls_ok (fa_at c 66 (.cls "Token") rfl)
  na_Token_kind := noat_ok (fa_at c 67 (.noat "Token" "kind") rfl)
  na_Token_text := noat_ok (fa_at c 68 (.noat "Token" "text") rfl)
  na_Token_number := noat_ok (fa_at c 69 (.noat "Token" "number") rfl)
  na_Token_place := noat_ok (fa_at c 70 (.noat "Token" "place") rfl)
  cl_Address := cls_ok (fa_at c 73 (.cls "Address") rfl)
  na_Address_word := noat_ok (fa_at c 74 (.noat "Address" "word") rfl)
  na_Address_letters := noat_ok (fa_at c 75 (.noat "Address" "letters") rfl)
  na_Address_low := noat_ok (fa_at c 76 (.noat "Address" "low") rfl)
  na_Address_high := noat_ok (fa_at c 77 (.noat "Address" "high") rfl)
  na_Address_nots := noat_ok (fa_at c 78 (.noat "Address" "nots") rfl)
  cl_Command := cls_ok (fa_at c 81 (.cls "Command") rfl)
  na_Command_address := noat_ok (fa_at c 82 (.noat "Command" "address") rfl)
  na_Command_word := noat_ok (fa_at c 83 (.noat "Command" "word") rfl)
  na_Command_letters := noat_ok (fa_at c 84 (.noat "Command" "letters") rfl)
  na_Command_number := noat_ok (fa_at c 85 (.noat "Command" "number") rfl)
  cl_Reader := cls_ok (fa_at c 88 (.cls "Reader") rfl)
  na_Reader_tokens := noat_ok (fa_at c 89 (.noat "Reader" "tokens") rfl)
  na_Reader_at := noat_ok (fa_at c 90 (.noat "Reader" "at") rfl)
  cl_Work := cls_ok (fa_at c 94 (.cls "Work") rfl)
  na_Work_letters := noat_ok (fa_at c 95 (.noat "Work" "letters") rfl)
  na_Work_number := noat_ok (fa_at c 96 (.noat "Work" "number") rfl)
  na_Work_is_last := noat_ok (fa_at c 97 (.noat "Work" "is_last") rfl)
  na_Work_put_ahead := noat_ok (fa_at c 98 (.noat "Work" "put_ahead") rfl)
  na_Work_put_behind := noat_ok (fa_at c 99 (.noat "Work" "put_behind") rfl)
  na_Work_is_deleted := noat_ok (fa_at c 100 (.noat "Work" "is_deleted") rfl)
  na_Work_left_out := noat_ok (fa_at c 101 (.noat "Work" "left_out") rfl)
  na_Work_is_done := noat_ok (fa_at c 102 (.noat "Work" "is_done") rfl)
  cl_Run := cls_ok (fa_at c 105 (.cls "Run") rfl)
  na_Run_commands := noat_ok (fa_at c 106 (.noat "Run" "commands") rfl)
  na_Run_held := noat_ok (fa_at c 107 (.noat "Run" "held") rfl)
  na_Run_came := noat_ok (fa_at c 108 (.noat "Run" "came") rfl)
  cl_Desk := cls_ok (fa_at c 112 (.cls "Desk") rfl)
  na_Desk_commands := noat_ok (fa_at c 113 (.noat "Desk" "commands") rfl)
  g_Fault := glo_ok X G (fa_at c 64 (.glo "Fault") rfl)
  ox_Fault := (exL_ok c.ex).o1
  xf_Fault := (exL_ok c.ex).x1
  na_Fault_code := noat_ok (fa_at c 181 (.noat "Fault" "code") rfl)
  na_Fault_place := noat_ok (fa_at c 182 (.noat "Fault" "place") rfl)
  te_Fault := exm_ok (fa_at c 183 (.exm "Fault" "Fault" true) rfl)
  g_Refused := glo_ok X G (fa_at c 110 (.glo "Refused") rfl)
  ox_Refused := (exL_ok c.ex).o2
  xf_Refused := (exL_ok c.ex).x2
  na_Refused_number := noat_ok (fa_at c 184 (.noat "Refused" "number") rfl)
  te_Refused := exm_ok (fa_at c 185 (.exm "Refused" "Refused" true) rfl)
  g_TooMuch := glo_ok X G (fa_at c 92 (.glo "TooMuch") rfl)
  xc_TooMuch := exc_ok (fa_at c 186 (.exc "TooMuch") rfl)
  te_TooMuch := exm_ok (fa_at c 187 (.exm "TooMuch" "TooMuch" true) rfl)
  vV := (exL_ok c.ex).vv
theorem at_place_for (c : SaysL K) : ∃ fd, FnP K "place_for" "place_for" s_place_for (fAd K ("place_for", none)) fd := fn_at c 0 ⟨("place_for", none), "place_for", "place_for", defArgs s_place_for, defBody s_place_for, defScope s_place_for, [], []⟩ rfl
theorem A_place_for (X : K.In h) (G : h.Ns mainGlobals mg) (c : SaysL K) : FnAt K mg "place_for" s_place_for ["change", "lines", "end", "drift"] := by
  obtain ⟨fd, F⟩ := at_place_for c
  exact ⟨_, fd, F, glo_ok X G (fa_at c 115 (.glo "place_for") rfl), F.bindsN (fun _ _ _ _ _ _ us hl => match us, hl with | [_, _, _, _], _ => rfl)⟩
theorem at_put_to (c : SaysL K) : ∃ fd, FnP K "put_to" "put_to" s_put_to (fAd K ("put_to", none)) fd := fn_at c 1 ⟨("put_to", none), "put_to", "put_to", defArgs s_put_to, defBody s_put_to, defScope s_put_to, [], []⟩ rfl
theorem A_put_to (X : K.In h) (G : h.Ns mainGlobals mg) (c : SaysL K) : FnAt K mg "put_to" s_put_to ["changes", "lines"] := by
  obtain ⟨fd, F⟩ := at_put_to c
  exact ⟨_, fd, F, glo_ok X G (fa_at c 116 (.glo "put_to") rfl), F.bindsN (fun _ _ _ _ _ _ us hl => match us, hl with | [_, _], _ => rfl)⟩
theorem at_commons (c : SaysL K) : ∃ fd, FnP K "commons" "commons" s_commons (fAd K ("commons", none)) fd := fn_at c 2 ⟨("commons", none), "commons", "commons", defArgs s_commons, defBody s_commons, defScope s_commons, [], []⟩ rfl
theorem A_commons (X : K.In h) (G : h.Ns mainGlobals mg) (c : SaysL K) : FnAt K mg "commons" s_commons ["one", "other"] := by
  obtain ⟨fd, F⟩ := at_commons c
  exact ⟨_, fd, F, glo_ok X G (fa_at c 117 (.glo "commons") rfl), F.bindsN (fun _ _ _ _ _ _ us hl => match us, hl with | [_, _], _ => rfl)⟩
theorem at_least_patch (c : SaysL K) : ∃ fd, FnP K "least_patch" "least_patch" s_least_patch (fAd K ("least_patch", none)) fd := fn_at c 3 ⟨("least_patch", none), "least_patch", "least_patch", defArgs s_least_patch, defBody s_least_patch, defScope s_least_patch, [], []⟩ rfl
theorem A_least_patch (X : K.In h) (G : h.Ns mainGlobals mg) (c : SaysL K) : FnAt K mg "least_patch" s_least_patch ["one", "other"] := by
  obtain ⟨fd, F⟩ := at_least_patch c
  exact ⟨_, fd, F, glo_ok X G (fa_at c 118 (.glo "least_patch") rfl), F.bindsN (fun _ _ _ _ _ _ us hl => match us, hl with | [_, _], _ => rfl)⟩
theorem at_cost_of (c : SaysL K) : ∃ fd, FnP K "cost_of" "cost_of" s_cost_of (fAd K ("cost_of", none)) fd := fn_at c 4 ⟨("cost_of", none), "cost_of", "cost_of", defArgs s_cost_of, defBody s_cost_of, defScope s_cost_of, [], []⟩ rfl
theorem A_cost_of (X : K.In h) (G : h.Ns mainGlobals mg) (c : SaysL K) : FnAt K mg "cost_of" s_cost_of ["marks"] := by
  obtain ⟨fd, F⟩ := at_cost_of c
  exact ⟨_, fd, F, glo_ok X G (fa_at c 119 (.glo "cost_of") rfl), F.bindsN (fun _ _ _ _ _ _ us hl => match us, hl with | [_], _ => rfl)⟩
theorem at_turned_round (c : SaysL K) : ∃ fd, FnP K "turned_round" "turned_round" s_turned_round (fAd K ("turned_round", none)) fd := fn_at c 5 ⟨("turned_round", none), "turned_round", "turned_round", defArgs s_turned_round, defBody s_turned_round, defScope s_turned_round, [], []⟩ rfl
theorem A_turned_round (X : K.In h) (G : h.Ns mainGlobals mg) (c : SaysL K) : FnAt K mg "turned_round" s_turned_round ["marks"] := by
  obtain ⟨fd, F⟩ := at_turned_round c
  exact ⟨_, fd, F, glo_ok X G (fa_at c 120 (.glo "turned_round") rfl), F.bindsN (fun _ _ _ _ _ _ us hl => match us, hl with | [_], _ => rfl)⟩
theorem at_cost_behind (c : SaysL K) : ∃ fd, FnP K "cost_behind" "cost_behind" s_cost_behind (fAd K ("cost_behind", none)) fd := fn_at c 6 ⟨("cost_behind", none), "cost_behind", "cost_behind", defArgs s_cost_behind, defBody s_cost_behind, defScope s_cost_behind, [], []⟩ rfl
theorem A_cost_behind (X : K.In h) (G : h.Ns mainGlobals mg) (c : SaysL K) : FnAt K mg "cost_behind" s_cost_behind ["first", "second"] := by
  obtain ⟨fd, F⟩ := at_cost_behind c
  exact ⟨_, fd, F, glo_ok X G (fa_at c 121 (.glo "cost_behind") rfl), F.bindsN (fun _ _ _ _ _ _ us hl => match us, hl with | [_, _], _ => rfl)⟩
theorem at_Change_init (c : SaysL K) : ∃ fd, FnP K "__init__" "Change.__init__" s_Change_init (fAd K ("Change", some "__init__")) fd := fn_at c 7 ⟨("Change", some "__init__"), "__init__", "Change.__init__", defArgs s_Change_init, defBody s_Change_init, defScope s_Change_init, [], []⟩ rfl
theorem A_Change_init (X : K.In h) (G : h.Ns mainGlobals mg) (c : SaysL K) : FnCl K mg "Change" (cA K "Change") "Change.__init__" s_Change_init ["self", "place", "before", "outs", "ins", "behind"] := by
  obtain ⟨fd, F⟩ := at_Change_init c
  exact ⟨_, fd, F, mkr_ok (fa_at c 63 (.mkr "Change") rfl), glo_ok X G (fa_at c 56 (.glo "Change") rfl), F.bindsN (fun _ _ _ _ _ _ us hl => match us, hl with | [_, _, _, _, _, _], _ => rfl)⟩
theorem at_Change_stands_at (c : SaysL K) : ∃ fd, FnP K "stands_at" "Change.stands_at" s_Change_stands_at (fAd K ("Change", some "stands_at")) fd := fn_at c 8 ⟨("Change", some "stands_at"), "stands_at", "Change.stands_at", defArgs s_Change_stands_at, defBody s_Change_stands_at, defScope s_Change_stands_at, [], []⟩ rfl
theorem A_Change_stands_at (c : SaysL K) : FnMt K (cA K "Change") "stands_at" "Change.stands_at" s_Change_stands_at ["self", "lines", "at"] := by
  obtain ⟨fd, F⟩ := at_Change_stands_at c
  exact ⟨_, fd, F, meth_ok (fa_at c 122 (.meth "Change" "stands_at") rfl), F.bindsN (fun _ _ _ _ _ _ us hl => match us, hl with | [_, _, _], _ => rfl)⟩
theorem at_rows_of (c : SaysL K) : ∃ fd, FnP K "rows_of" "rows_of" s_rows_of (fAd K ("rows_of", none)) fd := fn_at c 9 ⟨("rows_of", none), "rows_of", "rows_of", defArgs s_rows_of, defBody s_rows_of, defScope s_rows_of, [], []⟩ rfl
theorem A_rows_of (X : K.In h) (G : h.Ns mainGlobals mg) (c : SaysL K) : FnAt K mg "rows_of" s_rows_of ["marks"] := by
  obtain ⟨fd, F⟩ := at_rows_of c
  exact ⟨_, fd, F, glo_ok X G (fa_at c 123 (.glo "rows_of") rfl), F.bindsN (fun _ _ _ _ _ _ us hl => match us, hl with | [_], _ => rfl)⟩
theorem at_changes_of (c : SaysL K) : ∃ fd, FnP K "changes_of" "changes_of" s_changes_of (fAd K ("changes_of", none)) fd := fn_at c 10 ⟨("changes_of", none), "changes_of", "changes_of", defArgs s_changes_of, defBody s_changes_of, defScope s_changes_of, [], []⟩ rfl
theorem A_changes_of (X : K.In h) (G : h.Ns mainGlobals mg) (c : SaysL K) : FnAt K mg "changes_of" s_changes_of ["marks"] := by
  obtain ⟨fd, F⟩ := at_changes_of c
  exact ⟨_, fd, F, glo_ok X G (fa_at c 124 (.glo "changes_of") rfl), F.bindsN (fun _ _ _ _ _ _ us hl => match us, hl with | [_], _ => rfl)⟩
theorem at_Fault_init (c : SaysL K) : ∃ fd, FnP K "__init__" "Fault.__init__" s_Fault_init (fAd K ("Fault", some "__init__")) fd := fn_at c 11 ⟨("Fault", some "__init__"), "__init__", "Fault.__init__", defArgs s_Fault_init, defBody s_Fault_init, defScope s_Fault_init, [], []⟩ rfl
theorem A_Fault_init (X : K.In h) (G : h.Ns mainGlobals mg) (c : SaysL K) : FnEx K mg "Fault" (cA K "Fault") "Fault.__init__" s_Fault_init ["self", "code", "place"] := by
  obtain ⟨fd, F⟩ := at_Fault_init c
  have M := meth_ok (fa_at c 125 (.meth "Fault" "__init__") rfl)
  exact ⟨_, fd, F, M.at_, beq_iff_eq.mp M.fn, glo_ok X G (fa_at c 64 (.glo "Fault") rfl), F.bindsN (fun _ _ _ _ _ _ us hl => match us, hl with | [_, _, _], _ => rfl)⟩
theorem at_Token_init (c : SaysL K) : ∃ fd, FnP K "__init__" "Token.__init__" s_Token_init (fAd K ("Token", some "__init__")) fd := fn_at c 12 ⟨("Token", some "__init__"), "__init__", "Token.__init__", defArgs s_Token_init, defBody s_Token_init, defScope s_Token_init, [], []⟩ rfl
theorem A_Token_init (X : K.In h) (G : h.Ns mainGlobals mg) (c : SaysL K) : FnCl K mg "Token" (cA K "Token") "Token.__init__" s_Token_init ["self", "kind", "text", "number", "place"] := by
  obtain ⟨fd, F⟩ := at_Token_init c
  exact ⟨_, fd, F, mkr_ok (fa_at c 71 (.mkr "Token") rfl), glo_ok X G (fa_at c 65 (.glo "Token") rfl), F.bindsN (fun _ _ _ _ _ _ us hl => match us, hl with | [_, _, _, _, _], _ => rfl)⟩
theorem at_is_letter (c : SaysL K) : ∃ fd, FnP K "is_letter" "is_letter" s_is_letter (fAd K ("is_letter", none)) fd := fn_at c 13 ⟨("is_letter", none), "is_letter", "is_letter", defArgs s_is_letter, defBody s_is_letter, defScope s_is_letter, [], []⟩ rfl
theorem A_is_letter (X : K.In h) (G : h.Ns mainGlobals mg) (c : SaysL K) : FnAt K mg "is_letter" s_is_letter ["byte"] := by
  obtain ⟨fd, F⟩ := at_is_letter c
  exact ⟨_, fd, F, glo_ok X G (fa_at c 126 (.glo "is_letter") rfl), F.bindsN (fun _ _ _ _ _ _ us hl => match us, hl with | [_], _ => rfl)⟩
theorem at_is_digit (c : SaysL K) : ∃ fd, FnP K "is_digit" "is_digit" s_is_digit (fAd K ("is_digit", none)) fd := fn_at c 14 ⟨("is_digit", none), "is_digit", "is_digit", defArgs s_is_digit, defBody s_is_digit, defScope s_is_digit, [], []⟩ rfl
theorem A_is_digit (X : K.In h) (G : h.Ns mainGlobals mg) (c : SaysL K) : FnAt K mg "is_digit" s_is_digit ["byte"] := by
  obtain ⟨fd, F⟩ := at_is_digit c
  exact ⟨_, fd, F, glo_ok X G (fa_at c 127 (.glo "is_digit") rfl), F.bindsN (fun _ _ _ _ _ _ us hl => match us, hl with | [_], _ => rfl)⟩
theorem at_letters_of (c : SaysL K) : ∃ fd, FnP K "letters_of" "letters_of" s_letters_of (fAd K ("letters_of", none)) fd := fn_at c 15 ⟨("letters_of", none), "letters_of", "letters_of", defArgs s_letters_of, defBody s_letters_of, defScope s_letters_of, [], []⟩ rfl
theorem A_letters_of (X : K.In h) (G : h.Ns mainGlobals mg) (c : SaysL K) : FnAt K mg "letters_of" s_letters_of ["data"] := by
  obtain ⟨fd, F⟩ := at_letters_of c
  exact ⟨_, fd, F, glo_ok X G (fa_at c 128 (.glo "letters_of") rfl), F.bindsN (fun _ _ _ _ _ _ us hl => match us, hl with | [_], _ => rfl)⟩
theorem at_letters_end (c : SaysL K) : ∃ fd, FnP K "letters_end" "letters_end" s_letters_end (fAd K ("letters_end", none)) fd := fn_at c 16 ⟨("letters_end", none), "letters_end", "letters_end", defArgs s_letters_end, defBody s_letters_end, defScope s_letters_end, [], []⟩ rfl
theorem A_letters_end (X : K.In h) (G : h.Ns mainGlobals mg) (c : SaysL K) : FnAt K mg "letters_end" s_letters_end ["data", "at"] := by
  obtain ⟨fd, F⟩ := at_letters_end c
  exact ⟨_, fd, F, glo_ok X G (fa_at c 129 (.glo "letters_end") rfl), F.bindsN (fun _ _ _ _ _ _ us hl => match us, hl with | [_, _], _ => rfl)⟩
theorem at_digits_end (c : SaysL K) : ∃ fd, FnP K "digits_end" "digits_end" s_digits_end (fAd K ("digits_end", none)) fd := fn_at c 17 ⟨("digits_end", none), "digits_end", "digits_end", defArgs s_digits_end, defBody s_digits_end, defScope s_digits_end, [], []⟩ rfl
theorem A_digits_end (X : K.In h) (G : h.Ns mainGlobals mg) (c : SaysL K) : FnAt K mg "digits_end" s_digits_end ["data", "at"] := by
  obtain ⟨fd, F⟩ := at_digits_end c
  exact ⟨_, fd, F, glo_ok X G (fa_at c 130 (.glo "digits_end") rfl), F.bindsN (fun _ _ _ _ _ _ us hl => match us, hl with | [_, _], _ => rfl)⟩
theorem at_remark_end (c : SaysL K) : ∃ fd, FnP K "remark_end" "remark_end" s_remark_end (fAd K ("remark_end", none)) fd := fn_at c 18 ⟨("remark_end", none), "remark_end", "remark_end", defArgs s_remark_end, defBody s_remark_end, defScope s_remark_end, [], []⟩ rfl
theorem A_remark_end (X : K.In h) (G : h.Ns mainGlobals mg) (c : SaysL K) : FnAt K mg "remark_end" s_remark_end ["data", "at"] := by
  obtain ⟨fd, F⟩ := at_remark_end c
  exact ⟨_, fd, F, glo_ok X G (fa_at c 131 (.glo "remark_end") rfl), F.bindsN (fun _ _ _ _ _ _ us hl => match us, hl with | [_, _], _ => rfl)⟩
theorem at_number_of (c : SaysL K) : ∃ fd, FnP K "number_of" "number_of" s_number_of (fAd K ("number_of", none)) fd := fn_at c 19 ⟨("number_of", none), "number_of", "number_of", defArgs s_number_of, defBody s_number_of, defScope s_number_of, [], []⟩ rfl
theorem A_number_of (X : K.In h) (G : h.Ns mainGlobals mg) (c : SaysL K) : FnAt K mg "number_of" s_number_of ["digits"] := by
  obtain ⟨fd, F⟩ := at_number_of c
  exact ⟨_, fd, F, glo_ok X G (fa_at c 132 (.glo "number_of") rfl), F.bindsN (fun _ _ _ _ _ _ us hl => match us, hl with | [_], _ => rfl)⟩
theorem at_word_at (c : SaysL K) : ∃ fd, FnP K "word_at" "word_at" s_word_at (fAd K ("word_at", none)) fd := fn_at c 20 ⟨("word_at", none), "word_at", "word_at", defArgs s_word_at, defBody s_word_at, defScope s_word_at, [], []⟩ rfl
theorem A_word_at (X : K.In h) (G : h.Ns mainGlobals mg) (c : SaysL K) : FnAt K mg "word_at" s_word_at ["data", "at", "end"] := by
  obtain ⟨fd, F⟩ := at_word_at c
  exact ⟨_, fd, F, glo_ok X G (fa_at c 133 (.glo "word_at") rfl), F.bindsN (fun _ _ _ _ _ _ us hl => match us, hl with | [_, _, _], _ => rfl)⟩
theorem at_number_at (c : SaysL K) : ∃ fd, FnP K "number_at" "number_at" s_number_at (fAd K ("number_at", none)) fd := fn_at c 21 ⟨("number_at", none), "number_at", "number_at", defArgs s_number_at, defBody s_number_at, defScope s_number_at, [], []⟩ rfl
theorem A_number_at (X : K.In h) (G : h.Ns mainGlobals mg) (c : SaysL K) : FnAt K mg "number_at" s_number_at ["data", "at", "end"] := by
  obtain ⟨fd, F⟩ := at_number_at c
  exact ⟨_, fd, F, glo_ok X G (fa_at c 134 (.glo "number_at") rfl), F.bindsN (fun _ _ _ _ _ _ us hl => match us, hl with | [_, _, _], _ => rfl)⟩
theorem at_token_at (c : SaysL K) : ∃ fd, FnP K "token_at" "token_at" s_token_at (fAd K ("token_at", none)) fd := fn_at c 22 ⟨("token_at", none), "token_at", "token_at", defArgs s_token_at, defBody s_token_at, defScope s_token_at, [], []⟩ rfl
theorem A_token_at (X : K.In h) (G : h.Ns mainGlobals mg) (c : SaysL K) : FnAt K mg "token_at" s_token_at ["data", "at"] := by
  obtain ⟨fd, F⟩ := at_token_at c
  exact ⟨_, fd, F, glo_ok X G (fa_at c 135 (.glo "token_at") rfl), F.bindsN (fun _ _ _ _ _ _ us hl => match us, hl with | [_, _], _ => rfl)⟩
theorem at_tokens_of (c : SaysL K) : ∃ fd, FnP K "tokens_of" "tokens_of" s_tokens_of (fAd K ("tokens_of", none)) fd := fn_at c 23 ⟨("tokens_of", none), "tokens_of", "tokens_of", defArgs s_tokens_of, defBody s_tokens_of, defScope s_tokens_of, [], []⟩ rfl
theorem A_tokens_of (X : K.In h) (G : h.Ns mainGlobals mg) (c : SaysL K) : FnAt K mg "tokens_of" s_tokens_of ["data"] := by
  obtain ⟨fd, F⟩ := at_tokens_of c
  exact ⟨_, fd, F, glo_ok X G (fa_at c 136 (.glo "tokens_of") rfl), F.bindsN (fun _ _ _ _ _ _ us hl => match us, hl with | [_], _ => rfl)⟩
theorem at_Address_init (c : SaysL K) : ∃ fd, FnP K "__init__" "Address.__init__" s_Address_init (fAd K ("Address", some "__init__")) fd := fn_at c 24 ⟨("Address", some "__init__"), "__init__", "Address.__init__", defArgs s_Address_init, defBody s_Address_init, defScope s_Address_init, [], []⟩ rfl
theorem A_Address_init (X : K.In h) (G : h.Ns mainGlobals mg) (c : SaysL K) : FnCl K mg "Address" (cA K "Address") "Address.__init__" s_Address_init ["self", "word", "letters", "low", "high"] := by
  obtain ⟨fd, F⟩ := at_Address_init c
  exact ⟨_, fd, F, mkr_ok (fa_at c 79 (.mkr "Address") rfl), glo_ok X G (fa_at c 72 (.glo "Address") rfl), F.bindsN (fun _ _ _ _ _ _ us hl => match us, hl with | [_, _, _, _, _], _ => rfl)⟩
theorem at_Command_init (c : SaysL K) : ∃ fd, FnP K "__init__" "Command.__init__" s_Command_init (fAd K ("Command", some "__init__")) fd := fn_at c 25 ⟨("Command", some "__init__"), "__init__", "Command.__init__", defArgs s_Command_init, defBody s_Command_init, defScope s_Command_init, [], []⟩ rfl
theorem A_Command_init (X : K.In h) (G : h.Ns mainGlobals mg) (c : SaysL K) : FnCl K mg "Command" (cA K "Command") "Command.__init__" s_Command_init ["self", "address", "word", "letters", "number"] := by
  obtain ⟨fd, F⟩ := at_Command_init c
  exact ⟨_, fd, F, mkr_ok (fa_at c 86 (.mkr "Command") rfl), glo_ok X G (fa_at c 80 (.glo "Command") rfl), F.bindsN (fun _ _ _ _ _ _ us hl => match us, hl with | [_, _, _, _, _], _ => rfl)⟩
theorem at_Reader_init (c : SaysL K) : ∃ fd, FnP K "__init__" "Reader.__init__" s_Reader_init (fAd K ("Reader", some "__init__")) fd := fn_at c 26 ⟨("Reader", some "__init__"), "__init__", "Reader.__init__", defArgs s_Reader_init, defBody s_Reader_init, defScope s_Reader_init, [], []⟩ rfl
theorem A_Reader_init (X : K.In h) (G : h.Ns mainGlobals mg) (c : SaysL K) : FnCl K mg "Reader" (cA K "Reader") "Reader.__init__" s_Reader_init ["self", "tokens"] := by
  obtain ⟨fd, F⟩ := at_Reader_init c
  exact ⟨_, fd, F, mkr_ok (fa_at c 91 (.mkr "Reader") rfl), glo_ok X G (fa_at c 87 (.glo "Reader") rfl), F.bindsN (fun _ _ _ _ _ _ us hl => match us, hl with | [_, _], _ => rfl)⟩
theorem at_Reader_ahead (c : SaysL K) : ∃ fd, FnP K "ahead" "Reader.ahead" s_Reader_ahead (fAd K ("Reader", some "ahead")) fd := fn_at c 27 ⟨("Reader", some "ahead"), "ahead", "Reader.ahead", defArgs s_Reader_ahead, defBody s_Reader_ahead, defScope s_Reader_ahead, [], []⟩ rfl
theorem A_Reader_ahead (c : SaysL K) : FnMt K (cA K "Reader") "ahead" "Reader.ahead" s_Reader_ahead ["self"] := by
  obtain ⟨fd, F⟩ := at_Reader_ahead c
  exact ⟨_, fd, F, meth_ok (fa_at c 137 (.meth "Reader" "ahead") rfl), F.bindsN (fun _ _ _ _ _ _ us hl => match us, hl with | [_], _ => rfl)⟩
theorem at_Reader_fail (c : SaysL K) : ∃ fd, FnP K "fail" "Reader.fail" s_Reader_fail (fAd K ("Reader", some "fail")) fd := fn_at c 28 ⟨("Reader", some "fail"), "fail", "Reader.fail", defArgs s_Reader_fail, defBody s_Reader_fail, defScope s_Reader_fail, [], []⟩ rfl
theorem A_Reader_fail (c : SaysL K) : FnMt K (cA K "Reader") "fail" "Reader.fail" s_Reader_fail ["self", "code"] := by
  obtain ⟨fd, F⟩ := at_Reader_fail c
  exact ⟨_, fd, F, meth_ok (fa_at c 138 (.meth "Reader" "fail") rfl), F.bindsN (fun _ _ _ _ _ _ us hl => match us, hl with | [_, _], _ => rfl)⟩
theorem at_Reader_is_word (c : SaysL K) : ∃ fd, FnP K "is_word" "Reader.is_word" s_Reader_is_word (fAd K ("Reader", some "is_word")) fd := fn_at c 29 ⟨("Reader", some "is_word"), "is_word", "Reader.is_word", defArgs s_Reader_is_word, defBody s_Reader_is_word, defScope s_Reader_is_word, [], []⟩ rfl
theorem A_Reader_is_word (c : SaysL K) : FnMt K (cA K "Reader") "is_word" "Reader.is_word" s_Reader_is_word ["self", "word"] := by
  obtain ⟨fd, F⟩ := at_Reader_is_word c
  exact ⟨_, fd, F, meth_ok (fa_at c 139 (.meth "Reader" "is_word") rfl), F.bindsN (fun _ _ _ _ _ _ us hl => match us, hl with | [_, _], _ => rfl)⟩
theorem at_Reader_take (c : SaysL K) : ∃ fd, FnP K "take" "Reader.take" s_Reader_take (fAd K ("Reader", some "take")) fd := fn_at c 30 ⟨("Reader", some "take"), "take", "Reader.take", defArgs s_Reader_take, defBody s_Reader_take, defScope s_Reader_take, [], []⟩ rfl
theorem A_Reader_take (c : SaysL K) : FnMt K (cA K "Reader") "take" "Reader.take" s_Reader_take ["self", "good"] := by
  obtain ⟨fd, F⟩ := at_Reader_take c
  exact ⟨_, fd, F, meth_ok (fa_at c 140 (.meth "Reader" "take") rfl), F.bindsN (fun _ _ _ _ _ _ us hl => match us, hl with | [_, _], _ => rfl)⟩
theorem at_Reader_take_word (c : SaysL K) : ∃ fd, FnP K "take_word" "Reader.take_word" s_Reader_take_word (fAd K ("Reader", some "take_word")) fd := fn_at c 31 ⟨("Reader", some "take_word"), "take_word", "Reader.take_word", defArgs s_Reader_take_word, defBody s_Reader_take_word, defScope s_Reader_take_word, [], []⟩ rfl
theorem A_Reader_take_word (c : SaysL K) : FnMt K (cA K "Reader") "take_word" "Reader.take_word" s_Reader_take_word ["self", "word"] := by
  obtain ⟨fd, F⟩ := at_Reader_take_word c
  exact ⟨_, fd, F, meth_ok (fa_at c 141 (.meth "Reader" "take_word") rfl), F.bindsN (fun _ _ _ _ _ _ us hl => match us, hl with | [_, _], _ => rfl)⟩
theorem at_Reader_take_letters (c : SaysL K) : ∃ fd, FnP K "take_letters" "Reader.take_letters" s_Reader_take_letters (fAd K ("Reader", some "take_letters")) fd := fn_at c 32 ⟨("Reader", some "take_letters"), "take_letters", "Reader.take_letters", defArgs s_Reader_take_letters, defBody s_Reader_take_letters, defScope s_Reader_take_letters, [], []⟩ rfl
theorem A_Reader_take_letters (c : SaysL K) : FnMt K (cA K "Reader") "take_letters" "Reader.take_letters" s_Reader_take_letters ["self"] := by
  obtain ⟨fd, F⟩ := at_Reader_take_letters c
  exact ⟨_, fd, F, meth_ok (fa_at c 142 (.meth "Reader" "take_letters") rfl), F.bindsN (fun _ _ _ _ _ _ us hl => match us, hl with | [_], _ => rfl)⟩
theorem at_Reader_take_number (c : SaysL K) : ∃ fd, FnP K "take_number" "Reader.take_number" s_Reader_take_number (fAd K ("Reader", some "take_number")) fd := fn_at c 33 ⟨("Reader", some "take_number"), "take_number", "Reader.take_number", defArgs s_Reader_take_number, defBody s_Reader_take_number, defScope s_Reader_take_number, [], []⟩ rfl
theorem A_Reader_take_number (c : SaysL K) : FnMt K (cA K "Reader") "take_number" "Reader.take_number" s_Reader_take_number ["self", "low", "high"] := by
  obtain ⟨fd, F⟩ := at_Reader_take_number c
  exact ⟨_, fd, F, meth_ok (fa_at c 143 (.meth "Reader" "take_number") rfl), F.bindsN (fun _ _ _ _ _ _ us hl => match us, hl with | [_, _, _], _ => rfl)⟩
theorem at_read_nots (c : SaysL K) : ∃ fd, FnP K "read_nots" "read_nots" s_read_nots (fAd K ("read_nots", none)) fd := fn_at c 34 ⟨("read_nots", none), "read_nots", "read_nots", defArgs s_read_nots, defBody s_read_nots, defScope s_read_nots, [], []⟩ rfl
theorem A_read_nots (X : K.In h) (G : h.Ns mainGlobals mg) (c : SaysL K) : FnAt K mg "read_nots" s_read_nots ["reader"] := by
  obtain ⟨fd, F⟩ := at_read_nots c
  exact ⟨_, fd, F, glo_ok X G (fa_at c 144 (.glo "read_nots") rfl), F.bindsN (fun _ _ _ _ _ _ us hl => match us, hl with | [_], _ => rfl)⟩
theorem at_read_plain_address (c : SaysL K) : ∃ fd, FnP K "read_plain_address" "read_plain_address" s_read_plain_address (fAd K ("read_plain_address", none)) fd := fn_at c 35 ⟨("read_plain_address", none), "read_plain_address", "read_plain_address", defArgs s_read_plain_address, defBody s_read_plain_address, defScope s_read_plain_address, [], []⟩ rfl
theorem A_read_plain_address (X : K.In h) (G : h.Ns mainGlobals mg) (c : SaysL K) : FnAt K mg "read_plain_address" s_read_plain_address ["reader"] := by
  obtain ⟨fd, F⟩ := at_read_plain_address c
  exact ⟨_, fd, F, glo_ok X G (fa_at c 145 (.glo "read_plain_address") rfl), F.bindsN (fun _ _ _ _ _ _ us hl => match us, hl with | [_], _ => rfl)⟩
theorem at_read_address (c : SaysL K) : ∃ fd, FnP K "read_address" "read_address" s_read_address (fAd K ("read_address", none)) fd := fn_at c 36 ⟨("read_address", none), "read_address", "read_address", defArgs s_read_address, defBody s_read_address, defScope s_read_address, [], []⟩ rfl
theorem A_read_address (X : K.In h) (G : h.Ns mainGlobals mg) (c : SaysL K) : FnAt K mg "read_address" s_read_address ["reader"] := by
  obtain ⟨fd, F⟩ := at_read_address c
  exact ⟨_, fd, F, glo_ok X G (fa_at c 146 (.glo "read_address") rfl), F.bindsN (fun _ _ _ _ _ _ us hl => match us, hl with | [_], _ => rfl)⟩
theorem at_read_second (c : SaysL K) : ∃ fd, FnP K "read_second" "read_second" s_read_second (fAd K ("read_second", none)) fd := fn_at c 37 ⟨("read_second", none), "read_second", "read_second", defArgs s_read_second, defBody s_read_second, defScope s_read_second, [], []⟩ rfl
theorem A_read_second (X : K.In h) (G : h.Ns mainGlobals mg) (c : SaysL K) : FnAt K mg "read_second" s_read_second ["reader"] := by
  obtain ⟨fd, F⟩ := at_read_second c
  exact ⟨_, fd, F, glo_ok X G (fa_at c 147 (.glo "read_second") rfl), F.bindsN (fun _ _ _ _ _ _ us hl => match us, hl with | [_], _ => rfl)⟩
theorem at_read_deed (c : SaysL K) : ∃ fd, FnP K "read_deed" "read_deed" s_read_deed (fAd K ("read_deed", none)) fd := fn_at c 38 ⟨("read_deed", none), "read_deed", "read_deed", defArgs s_read_deed, defBody s_read_deed, defScope s_read_deed, [], []⟩ rfl
theorem A_read_deed (X : K.In h) (G : h.Ns mainGlobals mg) (c : SaysL K) : FnAt K mg "read_deed" s_read_deed ["reader", "address"] := by
  obtain ⟨fd, F⟩ := at_read_deed c
  exact ⟨_, fd, F, glo_ok X G (fa_at c 148 (.glo "read_deed") rfl), F.bindsN (fun _ _ _ _ _ _ us hl => match us, hl with | [_, _], _ => rfl)⟩
theorem at_read_command (c : SaysL K) : ∃ fd, FnP K "read_command" "read_command" s_read_command (fAd K ("read_command", none)) fd := fn_at c 39 ⟨("read_command", none), "read_command", "read_command", defArgs s_read_command, defBody s_read_command, defScope s_read_command, [], []⟩ rfl
theorem A_read_command (X : K.In h) (G : h.Ns mainGlobals mg) (c : SaysL K) : FnAt K mg "read_command" s_read_command ["reader"] := by
  obtain ⟨fd, F⟩ := at_read_command c
  exact ⟨_, fd, F, glo_ok X G (fa_at c 149 (.glo "read_command") rfl), F.bindsN (fun _ _ _ _ _ _ us hl => match us, hl with | [_], _ => rfl)⟩
theorem at_read_script (c : SaysL K) : ∃ fd, FnP K "read_script" "read_script" s_read_script (fAd K ("read_script", none)) fd := fn_at c 40 ⟨("read_script", none), "read_script", "read_script", defArgs s_read_script, defBody s_read_script, defScope s_read_script, [], []⟩ rfl
theorem A_read_script (X : K.In h) (G : h.Ns mainGlobals mg) (c : SaysL K) : FnAt K mg "read_script" s_read_script ["data"] := by
  obtain ⟨fd, F⟩ := at_read_script c
  exact ⟨_, fd, F, glo_ok X G (fa_at c 150 (.glo "read_script") rfl), F.bindsN (fun _ _ _ _ _ _ us hl => match us, hl with | [_], _ => rfl)⟩
theorem at_is_told (c : SaysL K) : ∃ fd, FnP K "is_told" "is_told" s_is_told (fAd K ("is_told", none)) fd := fn_at c 41 ⟨("is_told", none), "is_told", "is_told", defArgs s_is_told, defBody s_is_told, defScope s_is_told, [], []⟩ rfl
theorem A_is_told (X : K.In h) (G : h.Ns mainGlobals mg) (c : SaysL K) : FnAt K mg "is_told" s_is_told ["letters"] := by
  obtain ⟨fd, F⟩ := at_is_told c
  exact ⟨_, fd, F, glo_ok X G (fa_at c 151 (.glo "is_told") rfl), F.bindsN (fun _ _ _ _ _ _ us hl => match us, hl with | [_], _ => rfl)⟩
theorem at_put_in_text (c : SaysL K) : ∃ fd, FnP K "put_in_text" "put_in_text" s_put_in_text (fAd K ("put_in_text", none)) fd := fn_at c 42 ⟨("put_in_text", none), "put_in_text", "put_in_text", defArgs s_put_in_text, defBody s_put_in_text, defScope s_put_in_text, [], []⟩ rfl
theorem A_put_in_text (X : K.In h) (G : h.Ns mainGlobals mg) (c : SaysL K) : FnAt K mg "put_in_text" s_put_in_text ["number", "letters"] := by
  obtain ⟨fd, F⟩ := at_put_in_text c
  exact ⟨_, fd, F, glo_ok X G (fa_at c 152 (.glo "put_in_text") rfl), F.bindsN (fun _ _ _ _ _ _ us hl => match us, hl with | [_, _], _ => rfl)⟩
theorem at_commands_for (c : SaysL K) : ∃ fd, FnP K "commands_for" "commands_for" s_commands_for (fAd K ("commands_for", none)) fd := fn_at c 43 ⟨("commands_for", none), "commands_for", "commands_for", defArgs s_commands_for, defBody s_commands_for, defScope s_commands_for, [], []⟩ rfl
theorem A_commands_for (X : K.In h) (G : h.Ns mainGlobals mg) (c : SaysL K) : FnAt K mg "commands_for" s_commands_for ["marks"] := by
  obtain ⟨fd, F⟩ := at_commands_for c
  exact ⟨_, fd, F, glo_ok X G (fa_at c 153 (.glo "commands_for") rfl), F.bindsN (fun _ _ _ _ _ _ us hl => match us, hl with | [_], _ => rfl)⟩
theorem at_script_for (c : SaysL K) : ∃ fd, FnP K "script_for" "script_for" s_script_for (fAd K ("script_for", none)) fd := fn_at c 44 ⟨("script_for", none), "script_for", "script_for", defArgs s_script_for, defBody s_script_for, defScope s_script_for, [], []⟩ rfl
theorem A_script_for (X : K.In h) (G : h.Ns mainGlobals mg) (c : SaysL K) : FnAt K mg "script_for" s_script_for ["marks"] := by
  obtain ⟨fd, F⟩ := at_script_for c
  exact ⟨_, fd, F, glo_ok X G (fa_at c 154 (.glo "script_for") rfl), F.bindsN (fun _ _ _ _ _ _ us hl => match us, hl with | [_], _ => rfl)⟩
theorem at_Work_init (c : SaysL K) : ∃ fd, FnP K "__init__" "Work.__init__" s_Work_init (fAd K ("Work", some "__init__")) fd := fn_at c 45 ⟨("Work", some "__init__"), "__init__", "Work.__init__", defArgs s_Work_init, defBody s_Work_init, defScope s_Work_init, [], []⟩ rfl
theorem A_Work_init (X : K.In h) (G : h.Ns mainGlobals mg) (c : SaysL K) : FnCl K mg "Work" (cA K "Work") "Work.__init__" s_Work_init ["self", "letters", "number", "is_last"] := by
  obtain ⟨fd, F⟩ := at_Work_init c
  exact ⟨_, fd, F, mkr_ok (fa_at c 103 (.mkr "Work") rfl), glo_ok X G (fa_at c 93 (.glo "Work") rfl), F.bindsN (fun _ _ _ _ _ _ us hl => match us, hl with | [_, _, _, _], _ => rfl)⟩
theorem at_Work_lines (c : SaysL K) : ∃ fd, FnP K "lines" "Work.lines" s_Work_lines (fAd K ("Work", some "lines")) fd := fn_at c 46 ⟨("Work", some "lines"), "lines", "Work.lines", defArgs s_Work_lines, defBody s_Work_lines, defScope s_Work_lines, [], []⟩ rfl
theorem A_Work_lines (c : SaysL K) : FnMt K (cA K "Work") "lines" "Work.lines" s_Work_lines ["self"] := by
  obtain ⟨fd, F⟩ := at_Work_lines c
  exact ⟨_, fd, F, meth_ok (fa_at c 155 (.meth "Work" "lines") rfl), F.bindsN (fun _ _ _ _ _ _ us hl => match us, hl with | [_], _ => rfl)⟩
theorem at_Work_holds (c : SaysL K) : ∃ fd, FnP K "holds" "Work.holds" s_Work_holds (fAd K ("Work", some "holds")) fd := fn_at c 47 ⟨("Work", some "holds"), "holds", "Work.holds", defArgs s_Work_holds, defBody s_Work_holds, defScope s_Work_holds, [], []⟩ rfl
theorem A_Work_holds (c : SaysL K) : FnMt K (cA K "Work") "holds" "Work.holds" s_Work_holds ["self", "address"] := by
  obtain ⟨fd, F⟩ := at_Work_holds c
  exact ⟨_, fd, F, meth_ok (fa_at c 156 (.meth "Work" "holds") rfl), F.bindsN (fun _ _ _ _ _ _ us hl => match us, hl with | [_, _], _ => rfl)⟩
theorem at_Work_holds_plain (c : SaysL K) : ∃ fd, FnP K "holds_plain" "Work.holds_plain" s_Work_holds_plain (fAd K ("Work", some "holds_plain")) fd := fn_at c 48 ⟨("Work", some "holds_plain"), "holds_plain", "Work.holds_plain", defArgs s_Work_holds_plain, defBody s_Work_holds_plain, defScope s_Work_holds_plain, [], []⟩ rfl
theorem A_Work_holds_plain (c : SaysL K) : FnMt K (cA K "Work") "holds_plain" "Work.holds_plain" s_Work_holds_plain ["self", "address"] := by
  obtain ⟨fd, F⟩ := at_Work_holds_plain c
  exact ⟨_, fd, F, meth_ok (fa_at c 157 (.meth "Work" "holds_plain") rfl), F.bindsN (fun _ _ _ _ _ _ us hl => match us, hl with | [_, _], _ => rfl)⟩
theorem at_Work_put_letters (c : SaysL K) : ∃ fd, FnP K "put_letters" "Work.put_letters" s_Work_put_letters (fAd K ("Work", some "put_letters")) fd := fn_at c 49 ⟨("Work", some "put_letters"), "put_letters", "Work.put_letters", defArgs s_Work_put_letters, defBody s_Work_put_letters, defScope s_Work_put_letters, [], []⟩ rfl
theorem A_Work_put_letters (c : SaysL K) : FnMt K (cA K "Work") "put_letters" "Work.put_letters" s_Work_put_letters ["self", "letters"] := by
  obtain ⟨fd, F⟩ := at_Work_put_letters c
  exact ⟨_, fd, F, meth_ok (fa_at c 158 (.meth "Work" "put_letters") rfl), F.bindsN (fun _ _ _ _ _ _ us hl => match us, hl with | [_, _], _ => rfl)⟩
theorem at_Run_init (c : SaysL K) : ∃ fd, FnP K "__init__" "Run.__init__" s_Run_init (fAd K ("Run", some "__init__")) fd := fn_at c 50 ⟨("Run", some "__init__"), "__init__", "Run.__init__", defArgs s_Run_init, defBody s_Run_init, defScope s_Run_init, [], []⟩ rfl
theorem A_Run_init (X : K.In h) (G : h.Ns mainGlobals mg) (c : SaysL K) : FnCl K mg "Run" (cA K "Run") "Run.__init__" s_Run_init ["self", "commands"] := by
  obtain ⟨fd, F⟩ := at_Run_init c
  exact ⟨_, fd, F, mkr_ok (fa_at c 109 (.mkr "Run") rfl), glo_ok X G (fa_at c 104 (.glo "Run") rfl), F.bindsN (fun _ _ _ _ _ _ us hl => match us, hl with | [_, _], _ => rfl)⟩
theorem at_Run_go_over (c : SaysL K) : ∃ fd, FnP K "go_over" "Run.go_over" s_Run_go_over (fAd K ("Run", some "go_over")) fd := fn_at c 51 ⟨("Run", some "go_over"), "go_over", "Run.go_over", defArgs s_Run_go_over, defBody s_Run_go_over, defScope s_Run_go_over, [], []⟩ rfl
theorem A_Run_go_over (c : SaysL K) : FnMt K (cA K "Run") "go_over" "Run.go_over" s_Run_go_over ["self", "letters", "number", "is_last"] := by
  obtain ⟨fd, F⟩ := at_Run_go_over c
  exact ⟨_, fd, F, meth_ok (fa_at c 159 (.meth "Run" "go_over") rfl), F.bindsN (fun _ _ _ _ _ _ us hl => match us, hl with | [_, _, _, _], _ => rfl)⟩
theorem at_Run_look_at (c : SaysL K) : ∃ fd, FnP K "look_at" "Run.look_at" s_Run_look_at (fAd K ("Run", some "look_at")) fd := fn_at c 52 ⟨("Run", some "look_at"), "look_at", "Run.look_at", defArgs s_Run_look_at, defBody s_Run_look_at, defScope s_Run_look_at, [], []⟩ rfl
theorem A_Run_look_at (c : SaysL K) : FnMt K (cA K "Run") "look_at" "Run.look_at" s_Run_look_at ["self", "work", "command"] := by
  obtain ⟨fd, F⟩ := at_Run_look_at c
  exact ⟨_, fd, F, meth_ok (fa_at c 160 (.meth "Run" "look_at") rfl), F.bindsN (fun _ _ _ _ _ _ us hl => match us, hl with | [_, _, _], _ => rfl)⟩
theorem at_Run_do (c : SaysL K) : ∃ fd, FnP K "do" "Run.do" s_Run_do (fAd K ("Run", some "do")) fd := fn_at c 53 ⟨("Run", some "do"), "do", "Run.do", defArgs s_Run_do, defBody s_Run_do, defScope s_Run_do, [], []⟩ rfl
theorem A_Run_do (c : SaysL K) : FnMt K (cA K "Run") "do" "Run.do" s_Run_do ["self", "work", "command"] := by
  obtain ⟨fd, F⟩ := at_Run_do c
  exact ⟨_, fd, F, meth_ok (fa_at c 161 (.meth "Run" "do") rfl), F.bindsN (fun _ _ _ _ _ _ us hl => match us, hl with | [_, _, _], _ => rfl)⟩
theorem at_Run_do_held (c : SaysL K) : ∃ fd, FnP K "do_held" "Run.do_held" s_Run_do_held (fAd K ("Run", some "do_held")) fd := fn_at c 54 ⟨("Run", some "do_held"), "do_held", "Run.do_held", defArgs s_Run_do_held, defBody s_Run_do_held, defScope s_Run_do_held, [], []⟩ rfl
theorem A_Run_do_held (c : SaysL K) : FnMt K (cA K "Run") "do_held" "Run.do_held" s_Run_do_held ["self", "work", "word"] := by
  obtain ⟨fd, F⟩ := at_Run_do_held c
  exact ⟨_, fd, F, meth_ok (fa_at c 162 (.meth "Run" "do_held") rfl), F.bindsN (fun _ _ _ _ _ _ us hl => match us, hl with | [_, _, _], _ => rfl)⟩
theorem at_do_letters (c : SaysL K) : ∃ fd, FnP K "do_letters" "do_letters" s_do_letters (fAd K ("do_letters", none)) fd := fn_at c 55 ⟨("do_letters", none), "do_letters", "do_letters", defArgs s_do_letters, defBody s_do_letters, defScope s_do_letters, [], []⟩ rfl
theorem A_do_letters (X : K.In h) (G : h.Ns mainGlobals mg) (c : SaysL K) : FnAt K mg "do_letters" s_do_letters ["work", "word", "letters"] := by
  obtain ⟨fd, F⟩ := at_do_letters c
  exact ⟨_, fd, F, glo_ok X G (fa_at c 163 (.glo "do_letters") rfl), F.bindsN (fun _ _ _ _ _ _ us hl => match us, hl with | [_, _, _], _ => rfl)⟩
theorem at_result_of (c : SaysL K) : ∃ fd, FnP K "result_of" "result_of" s_result_of (fAd K ("result_of", none)) fd := fn_at c 56 ⟨("result_of", none), "result_of", "result_of", defArgs s_result_of, defBody s_result_of, defScope s_result_of, [], []⟩ rfl
theorem A_result_of (X : K.In h) (G : h.Ns mainGlobals mg) (c : SaysL K) : FnAt K mg "result_of" s_result_of ["commands", "lines"] := by
  obtain ⟨fd, F⟩ := at_result_of c
  exact ⟨_, fd, F, glo_ok X G (fa_at c 164 (.glo "result_of") rfl), F.bindsN (fun _ _ _ _ _ _ us hl => match us, hl with | [_, _], _ => rfl)⟩
theorem at_Refused_init (c : SaysL K) : ∃ fd, FnP K "__init__" "Refused.__init__" s_Refused_init (fAd K ("Refused", some "__init__")) fd := fn_at c 57 ⟨("Refused", some "__init__"), "__init__", "Refused.__init__", defArgs s_Refused_init, defBody s_Refused_init, defScope s_Refused_init, [], []⟩ rfl
theorem A_Refused_init (X : K.In h) (G : h.Ns mainGlobals mg) (c : SaysL K) : FnEx K mg "Refused" (cA K "Refused") "Refused.__init__" s_Refused_init ["self", "number"] := by
  obtain ⟨fd, F⟩ := at_Refused_init c
  have M := meth_ok (fa_at c 165 (.meth "Refused" "__init__") rfl)
  exact ⟨_, fd, F, M.at_, beq_iff_eq.mp M.fn, glo_ok X G (fa_at c 110 (.glo "Refused") rfl), F.bindsN (fun _ _ _ _ _ _ us hl => match us, hl with | [_, _], _ => rfl)⟩
theorem at_want (c : SaysL K) : ∃ fd, FnP K "want" "want" s_want (fAd K ("want", none)) fd := fn_at c 58 ⟨("want", none), "want", "want", defArgs s_want, defBody s_want, defScope s_want, [], []⟩ rfl
theorem A_want (X : K.In h) (G : h.Ns mainGlobals mg) (c : SaysL K) : FnAt K mg "want" s_want ["good", "number"] := by
  obtain ⟨fd, F⟩ := at_want c
  exact ⟨_, fd, F, glo_ok X G (fa_at c 166 (.glo "want") rfl), F.bindsN (fun _ _ _ _ _ _ us hl => match us, hl with | [_, _], _ => rfl)⟩
theorem at_bytes_of (c : SaysL K) : ∃ fd, FnP K "bytes_of" "bytes_of" s_bytes_of (fAd K ("bytes_of", none)) fd := fn_at c 59 ⟨("bytes_of", none), "bytes_of", "bytes_of", defArgs s_bytes_of, defBody s_bytes_of, defScope s_bytes_of, [], []⟩ rfl
theorem A_bytes_of (X : K.In h) (G : h.Ns mainGlobals mg) (c : SaysL K) : FnAt K mg "bytes_of" s_bytes_of ["text"] := by
  obtain ⟨fd, F⟩ := at_bytes_of c
  exact ⟨_, fd, F, glo_ok X G (fa_at c 167 (.glo "bytes_of") rfl), F.bindsN (fun _ _ _ _ _ _ us hl => match us, hl with | [_], _ => rfl)⟩
theorem at_lines_of (c : SaysL K) : ∃ fd, FnP K "lines_of" "lines_of" s_lines_of (fAd K ("lines_of", none)) fd := fn_at c 60 ⟨("lines_of", none), "lines_of", "lines_of", defArgs s_lines_of, defBody s_lines_of, defScope s_lines_of, [], []⟩ rfl
theorem A_lines_of (X : K.In h) (G : h.Ns mainGlobals mg) (c : SaysL K) : FnAt K mg "lines_of" s_lines_of ["data"] := by
  obtain ⟨fd, F⟩ := at_lines_of c
  exact ⟨_, fd, F, glo_ok X G (fa_at c 168 (.glo "lines_of") rfl), F.bindsN (fun _ _ _ _ _ _ us hl => match us, hl with | [_], _ => rfl)⟩
theorem at_patch_told (c : SaysL K) : ∃ fd, FnP K "patch_told" "patch_told" s_patch_told (fAd K ("patch_told", none)) fd := fn_at c 61 ⟨("patch_told", none), "patch_told", "patch_told", defArgs s_patch_told, defBody s_patch_told, defScope s_patch_told, [], []⟩ rfl
theorem A_patch_told (X : K.In h) (G : h.Ns mainGlobals mg) (c : SaysL K) : FnAt K mg "patch_told" s_patch_told ["marks"] := by
  obtain ⟨fd, F⟩ := at_patch_told c
  exact ⟨_, fd, F, glo_ok X G (fa_at c 169 (.glo "patch_told") rfl), F.bindsN (fun _ _ _ _ _ _ us hl => match us, hl with | [_], _ => rfl)⟩
theorem at_script_told (c : SaysL K) : ∃ fd, FnP K "script_told" "script_told" s_script_told (fAd K ("script_told", none)) fd := fn_at c 62 ⟨("script_told", none), "script_told", "script_told", defArgs s_script_told, defBody s_script_told, defScope s_script_told, [], []⟩ rfl
theorem A_script_told (X : K.In h) (G : h.Ns mainGlobals mg) (c : SaysL K) : FnAt K mg "script_told" s_script_told ["marks"] := by
  obtain ⟨fd, F⟩ := at_script_told c
  exact ⟨_, fd, F, glo_ok X G (fa_at c 170 (.glo "script_told") rfl), F.bindsN (fun _ _ _ _ _ _ us hl => match us, hl with | [_], _ => rfl)⟩
theorem at_text_told (c : SaysL K) : ∃ fd, FnP K "text_told" "text_told" s_text_told (fAd K ("text_told", none)) fd := fn_at c 63 ⟨("text_told", none), "text_told", "text_told", defArgs s_text_told, defBody s_text_told, defScope s_text_told, [], []⟩ rfl
theorem A_text_told (X : K.In h) (G : h.Ns mainGlobals mg) (c : SaysL K) : FnAt K mg "text_told" s_text_told ["lines"] := by
  obtain ⟨fd, F⟩ := at_text_told c
  exact ⟨_, fd, F, glo_ok X G (fa_at c 171 (.glo "text_told") rfl), F.bindsN (fun _ _ _ _ _ _ us hl => match us, hl with | [_], _ => rfl)⟩
theorem at_Desk_init (c : SaysL K) : ∃ fd, FnP K "__init__" "Desk.__init__" s_Desk_init (fAd K ("Desk", some "__init__")) fd := fn_at c 64 ⟨("Desk", some "__init__"), "__init__", "Desk.__init__", defArgs s_Desk_init, defBody s_Desk_init, defScope s_Desk_init, [], []⟩ rfl
theorem A_Desk_init (X : K.In h) (G : h.Ns mainGlobals mg) (c : SaysL K) : FnCl K mg "Desk" (cA K "Desk") "Desk.__init__" s_Desk_init ["self"] := by
  obtain ⟨fd, F⟩ := at_Desk_init c
  exact ⟨_, fd, F, mkr_ok (fa_at c 114 (.mkr "Desk") rfl), glo_ok X G (fa_at c 111 (.glo "Desk") rfl), F.bindsN (fun _ _ _ _ _ _ us hl => match us, hl with | [_], _ => rfl)⟩
theorem at_Desk_load (c : SaysL K) : ∃ fd, FnP K "load" "Desk.load" s_Desk_load (fAd K ("Desk", some "load")) fd := fn_at c 65 ⟨("Desk", some "load"), "load", "Desk.load", defArgs s_Desk_load, defBody s_Desk_load, defScope s_Desk_load, [], []⟩ rfl
theorem A_Desk_load (c : SaysL K) : FnMt K (cA K "Desk") "load" "Desk.load" s_Desk_load ["self", "data"] := by
  obtain ⟨fd, F⟩ := at_Desk_load c
  exact ⟨_, fd, F, meth_ok (fa_at c 172 (.meth "Desk" "load") rfl), F.bindsN (fun _ _ _ _ _ _ us hl => match us, hl with | [_, _], _ => rfl)⟩
theorem at_Desk_patch_of (c : SaysL K) : ∃ fd, FnP K "patch_of" "Desk.patch_of" s_Desk_patch_of (fAd K ("Desk", some "patch_of")) fd := fn_at c 66 ⟨("Desk", some "patch_of"), "patch_of", "Desk.patch_of", defArgs s_Desk_patch_of, defBody s_Desk_patch_of, defScope s_Desk_patch_of, [], []⟩ rfl
theorem A_Desk_patch_of (c : SaysL K) : FnMt K (cA K "Desk") "patch_of" "Desk.patch_of" s_Desk_patch_of ["self", "data"] := by
  obtain ⟨fd, F⟩ := at_Desk_patch_of c
  exact ⟨_, fd, F, meth_ok (fa_at c 173 (.meth "Desk" "patch_of") rfl), F.bindsN (fun _ _ _ _ _ _ us hl => match us, hl with | [_, _], _ => rfl)⟩
theorem at_drift (c : SaysL K) : ∃ fd, FnP K "drift" "drift" s_drift (fAd K ("drift", none)) fd := fn_at c 67 ⟨("drift", none), "drift", "drift", defArgs s_drift, defBody s_drift, defScope s_drift, [], []⟩ rfl
theorem A_drift (X : K.In h) (G : h.Ns mainGlobals mg) (c : SaysL K) : FnAt K mg "drift" s_drift ["one", "other", "third"] := by
  obtain ⟨fd, F⟩ := at_drift c
  exact ⟨_, fd, F, glo_ok X G (fa_at c 174 (.glo "drift") rfl), F.bindsN (fun _ _ _ _ _ _ us hl => match us, hl with | [_, _, _], _ => rfl)⟩
theorem at_both (c : SaysL K) : ∃ fd, FnP K "both" "both" s_both (fAd K ("both", none)) fd := fn_at c 68 ⟨("both", none), "both", "both", defArgs s_both, defBody s_both, defScope s_both, [], []⟩ rfl
theorem A_both (X : K.In h) (G : h.Ns mainGlobals mg) (c : SaysL K) : FnAt K mg "both" s_both ["one", "other", "third"] := by
  obtain ⟨fd, F⟩ := at_both c
  exact ⟨_, fd, F, glo_ok X G (fa_at c 175 (.glo "both") rfl), F.bindsN (fun _ _ _ _ _ _ us hl => match us, hl with | [_, _, _], _ => rfl)⟩
theorem at_hunks (c : SaysL K) : ∃ fd, FnP K "hunks" "hunks" s_hunks (fAd K ("hunks", none)) fd := fn_at c 69 ⟨("hunks", none), "hunks", "hunks", defArgs s_hunks, defBody s_hunks, defScope s_hunks, [], []⟩ rfl
theorem A_hunks (X : K.In h) (G : h.Ns mainGlobals mg) (c : SaysL K) : FnAt K mg "hunks" s_hunks ["one", "other"] := by
  obtain ⟨fd, F⟩ := at_hunks c
  exact ⟨_, fd, F, glo_ok X G (fa_at c 176 (.glo "hunks") rfl), F.bindsN (fun _ _ _ _ _ _ us hl => match us, hl with | [_, _], _ => rfl)⟩
theorem at_of_texts (c : SaysL K) : ∃ fd, FnP K "of_texts" "of_texts" s_of_texts (fAd K ("of_texts", none)) fd := fn_at c 70 ⟨("of_texts", none), "of_texts", "of_texts", defArgs s_of_texts, defBody s_of_texts, defScope s_of_texts, [], []⟩ rfl
theorem A_of_texts (X : K.In h) (G : h.Ns mainGlobals mg) (c : SaysL K) : FnAt K mg "of_texts" s_of_texts ["call", "texts"] := by
  obtain ⟨fd, F⟩ := at_of_texts c
  exact ⟨_, fd, F, glo_ok X G (fa_at c 177 (.glo "of_texts") rfl), F.bindsN (fun _ _ _ _ _ _ us hl => match us, hl with | [_, _], _ => rfl)⟩
theorem at_told (c : SaysL K) : ∃ fd, FnP K "told" "told" s_told (fAd K ("told", none)) fd := fn_at c 71 ⟨("told", none), "told", "told", defArgs s_told, defBody s_told, defScope s_told, [], []⟩ rfl
theorem A_told (X : K.In h) (G : h.Ns mainGlobals mg) (c : SaysL K) : FnAt K mg "told" s_told ["desk", "call", "rows"] := by
  obtain ⟨fd, F⟩ := at_told c
  exact ⟨_, fd, F, glo_ok X G (fa_at c 178 (.glo "told") rfl), F.bindsN (fun _ _ _ _ _ _ us hl => match us, hl with | [_, _, _], _ => rfl)⟩
theorem at_answer (c : SaysL K) : ∃ fd, FnP K "answer" "answer" s_answer (fAd K ("answer", none)) fd := fn_at c 72 ⟨("answer", none), "answer", "answer", defArgs s_answer, defBody s_answer, defScope s_answer, [], []⟩ rfl
theorem A_answer (X : K.In h) (G : h.Ns mainGlobals mg) (c : SaysL K) : FnAt K mg "answer" s_answer ["desk", "call", "rows"] := by
  obtain ⟨fd, F⟩ := at_answer c
  exact ⟨_, fd, F, glo_ok X G (fa_at c 179 (.glo "answer") rfl), F.bindsN (fun _ _ _ _ _ _ us hl => match us, hl with | [_, _, _], _ => rfl)⟩
theorem at_answers (c : SaysL K) : ∃ fd, FnP K "answers" "answers" s_answers (fAd K ("answers", none)) fd := fn_at c 73 ⟨("answers", none), "answers", "answers", defArgs s_answers, defBody s_answers, defScope s_answers, [], []⟩ rfl
theorem A_answers (X : K.In h) (G : h.Ns mainGlobals mg) (c : SaysL K) : FnAt K mg "answers" s_answers ["calls"] := by
  obtain ⟨fd, F⟩ := at_answers c
  exact ⟨_, fd, F, glo_ok X G (fa_at c 180 (.glo "answers") rfl), F.bindsN (fun _ _ _ _ _ _ us hl => match us, hl with | [_], _ => rfl)⟩
end
theorem all_ok {P : Program} {w : World} {K : Frag} {mg : Str → Option Value} {base h : Heap} (X : K.In h) (G : h.Ns mainGlobals mg) (c : SaysL K) : ∀ f fd, FnP K "answers" "answers" s_answers f fd → FnOk P w K mg base CX0 13 f fd ["calls"] (spAnswers K) := by
  have T := txt_of X G c
  have NB := (exL_ok c.ex).nb
  have D_cost_of := ok_cost_of (P := P) (w := w) (base := base) (A_cost_of X G c) T
  have D_commons := ok_commons (P := P) (w := w) (base := base) (A_commons X G c) T
  have D_least_patch := ok_least_patch (P := P) (w := w) (base := base) (A_least_patch X G c) T D_commons
  have D_turned_round := ok_turned_round (P := P) (w := w) (base := base) (A_turned_round X G c) T
  have D_cost_behind := ok_cost_behind (P := P) (w := w) (base := base) (A_cost_behind X G c) T
  have D_rows_of := ok_rows_of (P := P) (w := w) (base := base) (A_rows_of X G c) T
  have D_Change_stands_at := ok_stands_at (P := P) (w := w) (base := base) (A_Change_stands_at c) T
  have D_Change := ok_new_Change (P := P) (w := w) (base := base) (A_Change_init X G c) T
  have D_Command := ok_new_Command (P := P) (w := w) (base := base) (A_Command_init X G c) T
  have D_Address := ok_new_Address (P := P) (w := w) (base := base) (A_Address_init X G c) T
  have D_Reader := ok_new_Reader (P := P) (w := w) (base := base) (A_Reader_init X G c) T
  have D_Desk := ok_new_Desk (P := P) (w := w) (base := base) (A_Desk_init X G c) T
  have D_changes_of := ok_changes_of (P := P) (w := w) (base := base) (A_changes_of X G c) T D_rows_of D_Change
  have D_place_for := ok_place_for (P := P) (w := w) (base := base) (A_place_for X G c) T D_Change_stands_at
  have D_put_to := ok_put_to (P := P) (w := w) (base := base) (A_put_to X G c) T D_place_for
  have D_is_told := ok_is_told (P := P) (w := w) (base := base) (A_is_told X G c) T
  have D_put_in_text := ok_put_in_text (P := P) (w := w) (base := base) (A_put_in_text X G c) T
  have D_commands_for := ok_commands_for (P := P) (w := w) (base := base) (A_commands_for X G c) T D_put_in_text
  have D_script_for := ok_script_for (P := P) (w := w) (base := base) (A_script_for X G c) T D_is_told D_commands_for
  have D_bytes_of := ok_bytes_of (P := P) (w := w) (base := base) (A_bytes_of X G c) T
  have D_patch_told := ok_patch_told (P := P) (w := w) (base := base) (A_patch_told X G c) T D_cost_of D_bytes_of
  have D_text_told := ok_text_told (P := P) (w := w) (base := base) (A_text_told X G c) T D_bytes_of
  have D_both := ok_both (P := P) (w := w) (base := base) (A_both X G c) T D_least_patch D_cost_behind D_cost_of
  have D_drift := ok_drift (P := P) (w := w) (base := base) (A_drift X G c) T D_least_patch D_changes_of D_put_to D_text_told
  have D_hunks := ok_hunks (P := P) (w := w) (base := base) (A_hunks X G c) T D_least_patch D_changes_of
  have D_Fault := ok_new_Fault (P := P) (w := w) (base := base) (A_Fault_init X G c) T
  have D_Refused := ok_new_Refused (P := P) (w := w) (base := base) (A_Refused_init X G c) T
  have D_want := ok_want (P := P) (w := w) (base := base) (A_want X G c) T D_Refused
  have D_is_letter := ok_is_letter (P := P) (w := w) (base := base) (A_is_letter X G c) T
  have D_is_digit := ok_is_digit (P := P) (w := w) (base := base) (A_is_digit X G c) T
  have D_letters_of := ok_letters_of (P := P) (w := w) (base := base) (A_letters_of X G c) T
  have D_lines_of := ok_lines_of (P := P) (w := w) (base := base) (A_lines_of X G c) T D_want D_is_letter D_letters_of
  have D_script_told := ok_script_told (P := P) (w := w) (base := base) (A_script_told X G c) T D_want D_script_for D_bytes_of
  have D_of_texts := ok_of_texts (P := P) (w := w) (base := base) (A_of_texts X G c) T D_patch_told D_least_patch D_script_told D_drift D_both D_hunks
  have D_Work := ok_new_Work (P := P) (w := w) (base := base) (A_Work_init X G c) T
  have D_Run := ok_new_Run (P := P) (w := w) (base := base) (A_Run_init X G c) T
  have D_Work_holds_plain := ok_holds_plain (P := P) (w := w) (base := base) (A_Work_holds_plain c) T
  have D_Work_holds := ok_holds (P := P) (w := w) (base := base) (A_Work_holds c) T D_Work_holds_plain
  have D_Work_put_letters := ok_put_letters (P := P) (w := w) (base := base) (A_Work_put_letters c) T
  have D_do_letters := ok_do_letters (P := P) (w := w) (base := base) (A_do_letters X G c) T NB D_Work_put_letters
  have D_Run_do_held := ok_do_held (P := P) (w := w) (base := base) (A_Run_do_held c) T
  have D_Run_do := ok_do (P := P) (w := w) (base := base) (A_Run_do c) T D_Run_do_held D_do_letters
  have D_Run_look_at := ok_look_at (P := P) (w := w) (base := base) (A_Run_look_at c) T D_Work_holds D_Run_do
  have D_Work_lines := ok_lines (P := P) (w := w) (base := base) (A_Work_lines c) T
  have D_Run_go_over := ok_go_over (P := P) (w := w) (base := base) (A_Run_go_over c) T D_Work D_Run_look_at D_Work_lines
  have D_result_of := ok_result_of (P := P) (w := w) (base := base) (A_result_of X G c) T D_Run D_Run_go_over
  have D_hot := ok_hot_Refused (P := P) (w := w) (base := base) (A_Refused_init X G c) T
  have D_Token := ok_new_Token (P := P) (w := w) (base := base) (A_Token_init X G c) T
  have D_lettersC := ok_letters_ofC (P := P) (w := w) (base := base) (A_letters_of X G c) T
  have D_letters_end := ok_letters_end (P := P) (w := w) (base := base) (A_letters_end X G c) T D_is_letter
  have D_digits_end := ok_digits_end (P := P) (w := w) (base := base) (A_digits_end X G c) T D_is_digit
  have D_remark_end := ok_remark_end (P := P) (w := w) (base := base) (A_remark_end X G c) T
  have D_number_of := ok_number_of (P := P) (w := w) (base := base) (A_number_of X G c) T
  have D_number_at := ok_number_at (P := P) (w := w) (base := base) (A_number_at X G c) T D_Fault D_Token D_number_of
  have D_word_at := ok_word_at (P := P) (w := w) (base := base) (A_word_at X G c) T D_Fault D_Token D_lettersC
  have D_token_at := ok_token_at (P := P) (w := w) (base := base) (A_token_at X G c) T D_Fault D_Token D_is_letter D_is_digit D_letters_end D_digits_end D_word_at D_number_at
  have D_tokens_of := ok_tokens_of (P := P) (w := w) (base := base) (A_tokens_of X G c) T D_Fault D_Token D_remark_end D_token_at
  have D_Reader_ahead := ok_ahead (P := P) (w := w) (base := base) (A_Reader_ahead c) T
  have D_Reader_fail := ok_fail (P := P) (w := w) (base := base) (A_Reader_fail c) T D_Fault D_Reader_ahead
  have D_Reader_is_word := ok_is_word (P := P) (w := w) (base := base) (A_Reader_is_word c) T D_Reader_ahead
  have D_Reader_take := ok_take (P := P) (w := w) (base := base) (A_Reader_take c) T D_Reader_fail
  have D_Reader_take_word := ok_take_word (P := P) (w := w) (base := base) (A_Reader_take_word c) T D_Reader_is_word D_Reader_take
  have D_Reader_take_number := ok_take_number (P := P) (w := w) (base := base) (A_Reader_take_number c) T D_Reader_ahead D_Reader_fail D_Reader_take
  have D_Reader_take_letters := ok_take_letters (P := P) (w := w) (base := base) (A_Reader_take_letters c) T D_Reader_ahead D_Reader_take
  have D_read_nots := ok_read_nots (P := P) (w := w) (base := base) (A_read_nots X G c) T D_Reader_is_word D_Reader_fail D_Reader_take_word
  have D_read_plain_address := ok_plain (P := P) (w := w) (base := base) (A_read_plain_address X G c) T D_Reader_ahead D_Reader_take D_Reader_take_word D_Reader_take_number (DmC.std D_Reader_take_letters) D_Address
  have D_read_address := ok_address (P := P) (w := w) (base := base) (A_read_address X G c) T D_read_nots D_read_plain_address
  have D_read_second := ok_second (P := P) (w := w) (base := base) (A_read_second X G c) T D_Reader_is_word D_Reader_take_word D_Reader_take_letters
  have D_read_deed := ok_deed (P := P) (w := w) (base := base) (A_read_deed X G c) T D_Reader_ahead D_Reader_take_word D_Reader_take_number D_Reader_take_letters D_read_second D_Command
  have D_read_command := ok_command (P := P) (w := w) (base := base) (A_read_command X G c) T D_Reader_ahead D_Reader_is_word D_Reader_take D_Reader_take_word D_read_address D_read_deed D_Address
  have D_read_script := ok_read (P := P) (w := w) (base := base) (A_read_script X G c) T D_tokens_of D_Reader D_Reader_ahead D_Reader_fail D_read_command
  have D_Desk_load := ok_load (P := P) (w := w) (base := base) (A_Desk_load c) T D_read_script
  have D_Desk_patch_of := ok_patch_of (P := P) (w := w) (base := base) (A_Desk_patch_of c) T D_want D_lines_of D_result_of D_hot D_least_patch
  have D_told := ok_told (P := P) (w := w) (base := base) (A_told X G c) T D_Desk_load D_Desk_patch_of D_patch_told D_script_told D_turned_round D_of_texts D_lines_of
  have D_answer := ok_answer (P := P) (w := w) (base := base) (A_answer X G c) T D_told
  exact ok_answers T D_Desk D_answer
end Lp
end
section
set_option maxHeartbeats 0
/-! ### the head's kernel run -/
namespace Lp
open PySem PySem.Spec PyProof.Rows L2 He
open PySem.W (Frag)
def obT (s : PySem.W.SharedT) : hookL.α := obsL fun a => HandSHeadRun.getT s a
theorem obT_eq (s : PySem.W.SharedT) : obT s = hookL.obs s.abs := by
  have e : (fun a => HandSHeadRun.getT s a) = s.abs.heap.get? := funext fun a => HandSHeadRun.getT_eq s a
  show obsL _ = obsL _
  rw [e]
theorem run (w : World) : HandSHeadRun.RunEqS R qv hookL obT 6000 names w := by
  intro os
  kernel_rfl
end Lp
end
section
set_option maxHeartbeats 4000000
/-! ### the plain law: what the program tells is what is due -/
namespace Lp
open VasedBase (Bytes word)
open Vaseda (Script Text Line)
abbrev Raw := List (Int × List (List Int))
def rowR (r : List Int) : List Int := (r.length : Int) :: r
def callR (q : Int × List (List Int)) : List Int := q.1 :: q.2.flatMap rowR
def rawC (q : Int × List (List Int)) : List (List Int) := [q.1] :: q.2
theorem row_of {l x s : List Int} (h : PyFlat.row l = some (x, s)) : l = rowR x ++ s := by
  cases l with
  | nil => cases h
  | cons n r =>
    unfold PyFlat.row at h
    dsimp only at h
    split at h
    · rename_i c
      cases h
      unfold rowR
      rw [List.length_take, Nat.min_eq_left c.2, Int.toNat_of_nonneg c.1, List.cons_append, List.take_append_drop]
    · cases h
theorem rows_of : ∀ (k : Nat) {l t : List Int} {xs : List (List Int)}, PyFlat.rows k l = some (xs, t) → l = xs.flatMap rowR ++ t ∧ xs.length = k
  | 0, l, t, xs, h => by
    cases h
    exact ⟨rfl, rfl⟩
  | k + 1, l, t, xs, h => by
    unfold PyFlat.rows at h
    cases h1 : PyFlat.row l with
    | none => rw [h1] at h; cases h
    | some p =>
      obtain ⟨x, s⟩ := p
      rw [h1] at h
      dsimp only at h
      cases h2 : PyFlat.rows k s with
      | none => rw [h2] at h; cases h
      | some p2 =>
        obtain ⟨ys, u⟩ := p2
        rw [h2] at h
        cases h
        obtain ⟨e1, e2⟩ := rows_of k h2
        refine ⟨?_, by rw [List.length_cons, e2]⟩
        rw [row_of h1, e1, List.flatMap_cons, List.append_assoc]
theorem shape_zero {p : Int} {n k : Nat} (h : PyVasedc.shape p = some (n, k)) : n = 0 ∧ ((k = 1 ∧ (p = 0 ∨ p = 2 ∨ p = 4)) ∨ (k = 2 ∧ (p = 1 ∨ p = 3 ∨ p = 7)) ∨ (k = 3 ∧ (p = 5 ∨ p = 6))) := by
  unfold PyVasedc.shape at h
  repeat' split at h
  all_goals first
    | (cases h; done)
    | (cases h; refine ⟨rfl, ?_⟩; omega)
theorem call_of {l t : List Int} {c : List (List Int)} (h : PyFlat.call PyVasedc.shape l = some (c, t)) : ∃ q, c = rawC q ∧ l = callR q ++ t ∧ PyVasedc.shape q.1 = some (0, q.2.length) := by
  cases l with
  | nil => cases h
  | cons p r =>
    unfold PyFlat.call at h
    dsimp only at h
    cases hs : PyVasedc.shape p with
    | none => rw [hs] at h; cases h
    | some nk =>
      obtain ⟨n, k⟩ := nk
      obtain ⟨rfl, _⟩ := shape_zero hs
      rw [hs] at h
      dsimp only at h
      rw [if_neg (Nat.not_lt_zero _), List.drop_zero] at h
      cases h2 : PyFlat.rows k r with
      | none => rw [h2] at h; cases h
      | some p2 =>
        obtain ⟨xs, u⟩ := p2
        rw [h2] at h
        cases h
        obtain ⟨e1, e2⟩ := rows_of k h2
        exact ⟨(p, xs), rfl, by rw [e1]; rfl, by rw [hs, e2]⟩
theorem calls_of : ∀ (f : Nat) {l : List Int} {cs : List (List (List Int))}, PyFlat.calls PyVasedc.shape f l = some cs → ∃ qs : Raw, cs = qs.map rawC ∧ l = qs.flatMap callR ∧ ∀ q ∈ qs, PyVasedc.shape q.1 = some (0, q.2.length)
  | f, [], cs, h => by
    have h : some [] = some cs := by
      cases f <;> exact h
    cases h
    exact ⟨[], rfl, rfl, fun q hq => nomatch hq⟩
  | 0, _ :: _, cs, h => by cases h
  | f + 1, p :: r, cs, h => by
    unfold PyFlat.calls at h
    cases h1 : PyFlat.call PyVasedc.shape (p :: r) with
    | none => rw [h1] at h; cases h
    | some ct =>
      obtain ⟨c, t⟩ := ct
      rw [h1] at h
      dsimp only at h
      cases h2 : PyFlat.calls PyVasedc.shape f t with
      | none => rw [h2] at h; cases h
      | some ds =>
        rw [h2] at h
        cases h
        obtain ⟨q, rfl, e1, e2⟩ := call_of h1
        obtain ⟨qs, rfl, e3, e4⟩ := calls_of f h2
        refine ⟨q :: qs, rfl, by rw [e1, e3, List.flatMap_cons], fun x hx => ?_⟩
        rcases List.mem_cons.mp hx with rfl | hx
        · exact e2
        · exact e4 x hx
theorem whole_id (c : List (List Int)) : PyVasedc.whole c = c := by
  unfold PyVasedc.whole
  split <;> rfl
/-! bytes -/
def isB (r : List Int) : Prop := ∀ z ∈ r, 0 ≤ z ∧ z ≤ 255
theorem ints_bytes : ∀ {r : List Int}, isB r → intsB (VasedcNeutral.bytesOf r) = r
  | [], _ => rfl
  | z :: r, h => by
    have hz := h z (List.mem_cons_self ..)
    have ih := ints_bytes (r := r) fun x hx => h x (List.mem_cons_of_mem _ hx)
    unfold intsB VasedcNeutral.bytesOf at ih ⊢
    rw [List.map_cons, List.map_cons, ih]
    congr 1
    have : (UInt8.ofNat z.toNat).toNat = z.toNat := by
      rw [UInt8.toNat_ofNat']
      omega
    rw [this, Int.toNat_of_nonneg hz.1]
theorem bytes_ok {r : List Int} (h : isB r) : NeutralIO.bytes r = true := by
  unfold NeutralIO.bytes
  rw [List.all_eq_true]
  intro z hz
  have := h z hz
  simp [this.1, this.2]
def bsOf (rs : List (List Int)) : List Bytes := rs.map VasedcNeutral.bytesOf
/-! one call -/
theorem ansL_one (n : Int) : ansL (VasedBase.one n) = [n] := rfl
theorem load_step (o : Option Script) (b : Bytes) : VasedcNeutral.encode (Vasedc.step o (.load b)).2 = loadL b ∧ (Vasedc.step o (.load b)).1 = toldO o 0 [b] := by
  constructor
  · show VasedcNeutral.encode (match Vaseda.read b with
      | .ok s => ((some s : Option Script), (⟨1, Vaseda.nats [s.length]⟩ : VasedBase.Answer))
      | .error f => (o, VasedBase.faulty f)).2 = loadL b
    unfold loadL
    cases Vaseda.read b <;> rfl
  · show (match Vaseda.read b with
      | .ok s => ((some s : Option Script), (⟨1, Vaseda.nats [s.length]⟩ : VasedBase.Answer))
      | .error f => (o, VasedBase.faulty f)).1 = (match Vaseda.read b with
      | .ok s => some s
      | .error _ => o)
    cases Vaseda.read b <;> rfl
theorem script_ans (p : Vasedc.Patch) : ansL (Vasedc.scriptAnswer p) = match scriptE p with
    | .ok l => l
    | .error n => [n] := by
  unfold Vasedc.scriptAnswer scriptE scriptL
  cases Vasedc.scriptOf p <;> rfl
theorem patch_ans (o : Option Script) (b : Bytes) : ansL (Vasedc.looked o (.patch b)) = ansE o 2 [b] := by
  have h2 : toldE o 2 [b] = (runE o b).map fun p => ansL (Vasedc.patchAnswer p) := rfl
  unfold ansE
  rw [h2]
  cases o with
  | none => rfl
  | some s =>
    show ansL (Vasedc.with1 b fun t => match Vaseda.run s t with
      | none => VasedBase.one (-7)
      | some r => Vasedc.patchAnswer (Vasedc.patch t (Vaseda.outText r))) = _
    unfold Vasedc.with1 runE
    dsimp only
    cases Vaseda.readText b with
    | none => rfl
    | some t =>
      dsimp only
      cases Vaseda.run s t with
      | none => rfl
      | some r => rfl
theorem undo_ans (o : Option Script) (b : Bytes) : ansL (Vasedc.looked o (.undo b)) = ansE o 4 [b] := by
  have h2 : toldE o 4 [b] = (runE o b).bind fun p => scriptE (Vasedc.turned p) := rfl
  unfold ansE
  rw [h2]
  cases o with
  | none => rfl
  | some s =>
    show ansL (Vasedc.with1 b fun t => match Vaseda.run s t with
      | none => VasedBase.one (-7)
      | some r => Vasedc.scriptAnswer (Vasedc.turned (Vasedc.patch t (Vaseda.outText r)))) = _
    unfold Vasedc.with1 runE
    dsimp only
    cases Vaseda.readText b with
    | none => rfl
    | some t =>
      dsimp only
      cases Vaseda.run s t with
      | none => rfl
      | some r => exact script_ans _
theorem two_ans (c : Int) (o : Option Script) (a b : Bytes) (f : Text → Text → VasedBase.Answer) (h : ∀ t u, ansL (f t u) = match textsL c [t, u] with
      | some l => l
      | none => [-6]) : ansL (Vasedc.with2 a b f) = ansE o c [a, b] := by
  unfold ansE toldE textsE Vasedc.with2 Vasedc.with1
  dsimp only
  rw [List.mapM_cons, List.mapM_cons, List.mapM_nil]
  cases Vaseda.readText a with
  | none => rfl
  | some t =>
    cases Vaseda.readText b with
    | none => rfl
    | some u =>
      show ansL (f t u) = match (match textsL c [t, u] with
        | none => Except.error (-6)
        | some l => Except.ok l) with
        | .ok l => l
        | .error n => [n]
      rw [h]
      cases textsL c [t, u] <;> rfl
theorem three_ans (c : Int) (o : Option Script) (a b d : Bytes) (f : Text → Text → Text → VasedBase.Answer) (h : ∀ t u v, ansL (f t u v) = match textsL c [t, u, v] with
      | some l => l
      | none => [-6]) : ansL (Vasedc.with3 a b d f) = ansE o c [a, b, d] := by
  unfold ansE toldE textsE Vasedc.with3 Vasedc.with2 Vasedc.with1
  dsimp only
  rw [List.mapM_cons, List.mapM_cons, List.mapM_cons, List.mapM_nil]
  cases Vaseda.readText a with
  | none => rfl
  | some t =>
    cases Vaseda.readText b with
    | none => rfl
    | some u =>
      cases Vaseda.readText d with
      | none => rfl
      | some v =>
        show ansL (f t u v) = match (match textsL c [t, u, v] with
          | none => Except.error (-6)
          | some l => Except.ok l) with
          | .ok l => l
          | .error n => [n]
        rw [h]
        cases textsL c [t, u, v] <;> rfl
/-- what a call answers and makes of the script -/
theorem step_is (o : Option Script) (q : Int × List (List Int)) (hs : PyVasedc.shape q.1 = some (0, q.2.length)) (hb : ∀ r ∈ q.2, isB r) : VasedcNeutral.step o (rawC q) = (toldO o q.1 (bsOf q.2), ansE o q.1 (bsOf q.2)) := by
  obtain ⟨p, rs⟩ := q
  obtain ⟨_, hk⟩ := shape_zero hs
  dsimp only at hk hb
  rcases hk with ⟨k, hp⟩ | ⟨k, hp⟩ | ⟨k, hp⟩
  · match rs, k, hb with
    | [a], _, hb =>
      have ha := bytes_ok (hb a (by simp))
      rcases hp with rfl | rfl | rfl
      · have hc : VasedcNeutral.callOf (rawC (0, [a])) = some (.load (VasedcNeutral.bytesOf a)) := (show VasedcNeutral.callOf (rawC (0, [a])) = if NeutralIO.bytes a = true then some (.load (VasedcNeutral.bytesOf a)) else none from rfl).trans (if_pos ha)
        unfold VasedcNeutral.step
        rw [hc]
        obtain ⟨h1, h2⟩ := load_step o (VasedcNeutral.bytesOf a)
        exact Prod.ext h2 h1
      · have hc : VasedcNeutral.callOf (rawC (2, [a])) = some (.patch (VasedcNeutral.bytesOf a)) := (show VasedcNeutral.callOf (rawC (2, [a])) = if NeutralIO.bytes a = true then some (.patch (VasedcNeutral.bytesOf a)) else none from rfl).trans (if_pos ha)
        unfold VasedcNeutral.step
        rw [hc]
        exact Prod.ext rfl (patch_ans o (VasedcNeutral.bytesOf a))
      · have hc : VasedcNeutral.callOf (rawC (4, [a])) = some (.undo (VasedcNeutral.bytesOf a)) := (show VasedcNeutral.callOf (rawC (4, [a])) = if NeutralIO.bytes a = true then some (.undo (VasedcNeutral.bytesOf a)) else none from rfl).trans (if_pos ha)
        unfold VasedcNeutral.step
        rw [hc]
        exact Prod.ext rfl (undo_ans o (VasedcNeutral.bytesOf a))
  · match rs, k, hb with
    | [a, b], _, hb =>
      have ha := bytes_ok (hb a (by simp))
      have hb' := bytes_ok (hb b (by simp))
      rcases hp with rfl | rfl | rfl
      · have hc : VasedcNeutral.callOf (rawC (1, [a, b])) = some (.diff (VasedcNeutral.bytesOf a) (VasedcNeutral.bytesOf b)) := (show VasedcNeutral.callOf (rawC (1, [a, b])) = if NeutralIO.bytes a = true ∧ NeutralIO.bytes b = true then some (.diff (VasedcNeutral.bytesOf a) (VasedcNeutral.bytesOf b)) else none from rfl).trans (if_pos ⟨ha, hb'⟩)
        unfold VasedcNeutral.step
        rw [hc]
        exact Prod.ext rfl (two_ans 1 o _ _ _ fun t u => rfl)
      · have hc : VasedcNeutral.callOf (rawC (3, [a, b])) = some (.script (VasedcNeutral.bytesOf a) (VasedcNeutral.bytesOf b)) := (show VasedcNeutral.callOf (rawC (3, [a, b])) = if NeutralIO.bytes a = true ∧ NeutralIO.bytes b = true then some (.script (VasedcNeutral.bytesOf a) (VasedcNeutral.bytesOf b)) else none from rfl).trans (if_pos ⟨ha, hb'⟩)
        unfold VasedcNeutral.step
        rw [hc]
        refine Prod.ext rfl (two_ans 3 o _ _ _ fun t u => ?_)
        rw [script_ans]
        show _ = match scriptL (Vasedc.patch t u) with
          | some l => l
          | none => [-6]
        unfold scriptE
        cases scriptL (Vasedc.patch t u) <;> rfl
      · have hc : VasedcNeutral.callOf (rawC (7, [a, b])) = some (.hunks (VasedcNeutral.bytesOf a) (VasedcNeutral.bytesOf b)) := (show VasedcNeutral.callOf (rawC (7, [a, b])) = if NeutralIO.bytes a = true ∧ NeutralIO.bytes b = true then some (.hunks (VasedcNeutral.bytesOf a) (VasedcNeutral.bytesOf b)) else none from rfl).trans (if_pos ⟨ha, hb'⟩)
        unfold VasedcNeutral.step
        rw [hc]
        exact Prod.ext rfl (two_ans 7 o _ _ _ fun t u => rfl)
  · match rs, k, hb with
    | [a, b, d], _, hb =>
      have ha := bytes_ok (hb a (by simp))
      have hb' := bytes_ok (hb b (by simp))
      have hd := bytes_ok (hb d (by simp))
      rcases hp with rfl | rfl
      · have hc : VasedcNeutral.callOf (rawC (5, [a, b, d])) = some (.drift (VasedcNeutral.bytesOf a) (VasedcNeutral.bytesOf b) (VasedcNeutral.bytesOf d)) := (show VasedcNeutral.callOf (rawC (5, [a, b, d])) = if NeutralIO.bytes a = true ∧ NeutralIO.bytes b = true ∧ NeutralIO.bytes d = true then some (.drift (VasedcNeutral.bytesOf a) (VasedcNeutral.bytesOf b) (VasedcNeutral.bytesOf d)) else none from rfl).trans (if_pos ⟨ha, hb', hd⟩)
        unfold VasedcNeutral.step
        rw [hc]
        refine Prod.ext rfl (three_ans 5 o _ _ _ _ fun t u v => ?_)
        show _ = driftL t u v
        unfold driftL
        cases Vasedc.drift (Vasedc.patch t u) v <;> rfl
      · have hc : VasedcNeutral.callOf (rawC (6, [a, b, d])) = some (.both (VasedcNeutral.bytesOf a) (VasedcNeutral.bytesOf b) (VasedcNeutral.bytesOf d)) := (show VasedcNeutral.callOf (rawC (6, [a, b, d])) = if NeutralIO.bytes a = true ∧ NeutralIO.bytes b = true ∧ NeutralIO.bytes d = true then some (.both (VasedcNeutral.bytesOf a) (VasedcNeutral.bytesOf b) (VasedcNeutral.bytesOf d)) else none from rfl).trans (if_pos ⟨ha, hb', hd⟩)
        unfold VasedcNeutral.step
        rw [hc]
        exact Prod.ext rfl (three_ans 6 o _ _ _ _ fun t u v => rfl)
def callsC (qs : Raw) : Calls := qs.map fun q => (q.1, bsOf q.2)
theorem play_is : ∀ (qs : Raw) (o : Option Script), (∀ q ∈ qs, PyVasedc.shape q.1 = some (0, q.2.length) ∧ ∀ r ∈ q.2, isB r) → PyFlat.told (PyFlat.played VasedcNeutral.step o (qs.map rawC)) = playL o (callsC qs)
  | [], _, _ => rfl
  | q :: qs, o, h => by
    obtain ⟨h1, h2⟩ := h q (List.mem_cons_self ..)
    have ih := play_is qs (toldO o q.1 (bsOf q.2)) fun x hx => h x (List.mem_cons_of_mem _ hx)
    rw [List.map_cons]
    unfold PyFlat.played
    rw [step_is o q h1 h2]
    show (((ansE o q.1 (bsOf q.2)).length : Int) :: ansE o q.1 (bsOf q.2)) ++ PyFlat.told (PyFlat.played VasedcNeutral.step (toldO o q.1 (bsOf q.2)) (qs.map rawC)) = _
    rw [ih]
    rfl
theorem enc_is {qs : Raw} (h : ∀ q ∈ qs, ∀ r ∈ q.2, isB r) : (callsC qs).flatMap encC = qs.flatMap callR := by
  induction qs with
  | nil => rfl
  | cons q qs ih =>
    have ih := ih fun x hx => h x (List.mem_cons_of_mem _ hx)
    have h0 := h q (List.mem_cons_self ..)
    unfold callsC at ih ⊢
    rw [List.map_cons, List.flatMap_cons, List.flatMap_cons, ih]
    congr 1
    unfold encC callR bsOf
    congr 1
    generalize q.2 = rs at h0
    induction rs with
    | nil => rfl
    | cons r rs ih2 =>
      rw [List.map_cons, List.flatMap_cons, List.flatMap_cons, ih2 fun x hx => h0 x (List.mem_cons_of_mem _ hx)]
      congr 1
      unfold encR rowR
      rw [ints_bytes (h0 r (List.mem_cons_self ..))]
      congr 2
      unfold VasedcNeutral.bytesOf
      rw [List.length_map]
end Lp
end
section
set_option maxHeartbeats 4000000
/-! ### a row's walk, the written part found by the Hook -/
namespace Lp
open PySem PySem.Spec PyProof.Rows L2 He
open PySem.W (Frag WData Codec OpenSpec)
open PySem.Calls
theorem walk_ex {r : OpenSpec} {k : Nat} {q : Program} {loose : List Str} {XP : (Str → Option Value) → Heap → Prop} {YP : World → Heap → Prop} {d : DefRec} {CX : CXT} {ps : List Str} {sp : Frag → Sp}
    (hwell : r.wellSaid = true) (hlen : r.args.length = ps.length) (hr : Room k callerA)
    (F : ∀ (w : World) (mg : Str → Option Value) (fa : Addr) (h : Heap), YP w h → h.Ns mainGlobals mg → mg d.name = some (.ref fa) →
      ∃ (K : Frag) (fd : FuncData), K.In h ∧ (∀ (s : Shared) (us : List Value), us.length = ps.length → BindsTo s fd ⟨us, []⟩ (ps.zip us)) ∧ ∀ base : Heap, K.In base → base.Ns mainGlobals mg → FnOk r.prog w K mg base CX k fa fd ps (sp K))
    (hsp : ∀ (K : Frag) (H : Hp) (xs : List V) (a : Codec.denoteAll r.args), OnlyF H → Codec.withinAll r.args a = true → Codec.app r.args r.asked a = true → DwAll K H xs (Codec.encAll r.args a) →
      sp K xs H (fun v H' => Dw K H' v (r.ret.enc (Codec.app r.args r.f a))) fun _ _ _ => False)
    (hCX : ∀ (H : Hp) (s : Shared) (e : Value) (s' : Shared), CX [] H s (fun _ _ _ => False) e s' → False) :
    PySem.W.WalkOS q loose XP YP r d [] (fun f vs => PySem.call f vs) := by
  intro w s₀ s₁ mg mb G Y fa o pm cd doc dV kV ho hd hcd hD hmg hg args vals as hpre hlay hrd hwl hlo
  obtain ⟨a, e1, e2⟩ := PySem.W.os_pre_some hpre
  obtain ⟨e3, hwi⟩ := Codec.encAll_of_decAll r.args args a e1
  subst e3
  obtain ⟨K, fd, KX, hb, hF⟩ := F w mg fa _ Y G.T.g hmg
  refine PySem.W.enter_call (codeAny_mono (spec_call (R := []) (cl := classAt s₀.heap) (d0 := r.ret.enc (Codec.app r.args r.f a)) KX G.T.g G.T.b G.T.builtins G.T.nolimit hg hwl (pl_encAll _ _) (layable_weight hlay) hr hF hb (by rw [encAll_len]; exact hlen)
    (fun H xs hO hS => hsp K H xs a hO hwi e2 hS) fun H e s' => hCX H s₁ e s') fun r' s' hq => ?_)
  obtain ⟨u, as', rfl, h1, h2, h3, h4⟩ := hq
  exact ⟨.inl ⟨u, _, as', rfl, fun _ => rfl, h1, (OpenSpec.post_iff hwell hwi _ _).mpr rfl, fun z => Bool.noConfusion (show false = true from z)⟩, h2, h3, h4⟩
end Lp
end
section
set_option maxHeartbeats 4000000
/-! ### what is asked, as calls -/
namespace Lp
open VasedBase (Bytes word)
open Vaseda (Script Text Line)
theorem lists_ok : ∀ (bs : List (Int × Int × Nat × Nat)) (rs : List (List Int)), (∀ x ∈ bs, x = (0, 255, 0, 8192)) → rs.length ≤ bs.length → PyInside.lists bs rs = true → ∀ r ∈ rs, isB r ∧ r.length ≤ 8192
  | _, [], _, _, _, r, hr => nomatch hr
  | [], _ :: _, _, hl, _, _, _ => absurd hl (Nat.not_succ_le_zero _)
  | b :: bs, x :: xs, hb, hl, h, r, hr => by
    have e := hb b (List.mem_cons_self ..)
    subst e
    have h : (decide (0 ≤ x.length) && decide (x.length ≤ 8192) && x.all (PyInside.within 0 255) && PyInside.lists bs xs) = true := h
    obtain ⟨h, h4⟩ := Bool.and_eq_true_iff.mp h
    obtain ⟨h, h3⟩ := Bool.and_eq_true_iff.mp h
    obtain ⟨h1, h2⟩ := Bool.and_eq_true_iff.mp h
    rcases List.mem_cons.mp hr with rfl | hr
    · refine ⟨fun z hz => ?_, of_decide_eq_true h2⟩
      have q := List.all_eq_true.mp h3 z hz
      obtain ⟨a, c⟩ := Bool.and_eq_true_iff.mp (show (decide (0 ≤ z) && decide (z ≤ 255)) = true from q)
      exact ⟨of_decide_eq_true a, of_decide_eq_true c⟩
    · exact lists_ok bs xs (fun y hy => hb y (List.mem_cons_of_mem _ hy)) (Nat.le_of_succ_le_succ hl) h4 r hr
theorem bound_is {p : Int} {k : Nat} (h : (k = 1 ∧ (p = 0 ∨ p = 2 ∨ p = 4)) ∨ (k = 2 ∧ (p = 1 ∨ p = 3 ∨ p = 7)) ∨ (k = 3 ∧ (p = 5 ∨ p = 6))) : (PyVasedc.bound p).2 = List.replicate k (0, 255, 0, 8192) := by
  rcases h with ⟨rfl, rfl | rfl | rfl⟩ | ⟨rfl, rfl | rfl | rfl⟩ | ⟨rfl, rfl | rfl⟩ <;> rfl
theorem rowsOk_of {q : Int × List (List Int)} (h : PyVasedc.shape q.1 = some (0, q.2.length)) : RowsOk q.1 (bsOf q.2) := by
  obtain ⟨_, h⟩ := shape_zero h
  unfold RowsOk bsOf
  rw [List.length_map]
  exact h
theorem inside_ok {q : Int × List (List Int)} (hs : PyVasedc.shape q.1 = some (0, q.2.length)) (h : PyInside.call PyVasedc.bound (rawC q) = true) : ∀ r ∈ q.2, isB r ∧ r.length ≤ 8192 := by
  obtain ⟨_, hk⟩ := shape_zero hs
  have h : (PyInside.each (PyVasedc.bound q.1).1 [] && PyInside.lists (PyVasedc.bound q.1).2 q.2) = true := h
  obtain ⟨_, h⟩ := Bool.and_eq_true_iff.mp h
  rw [bound_is hk] at h
  exact lists_ok _ _ (fun x hx => List.eq_of_mem_replicate hx) (by rw [List.length_replicate]; exact Nat.le_refl _) h
theorem callR_len (q : Int × List (List Int)) (hs : PyVasedc.shape q.1 = some (0, q.2.length)) (h : ∀ r ∈ q.2, r.length ≤ 8192) : (callR q).length ≤ 24580 := by
  obtain ⟨_, hk⟩ := shape_zero hs
  have h3 : q.2.length ≤ 3 := by omega
  have key : ∀ rs : List (List Int), (∀ r ∈ rs, r.length ≤ 8192) → (rs.flatMap rowR).length ≤ rs.length * 8193 := fun rs => by
    induction rs with
    | nil => intro _; exact Nat.le_refl _
    | cons r rs ih =>
      intro hr
      have h1 := hr r (List.mem_cons_self ..)
      have h2 := ih fun x hx => hr x (List.mem_cons_of_mem _ hx)
      rw [List.flatMap_cons, List.length_append]
      show r.length + 1 + _ ≤ (rs.length + 1) * 8193
      omega
  have := key q.2 h
  show (q.2.flatMap rowR).length + 1 ≤ 24580
  omega
theorem all_len : ∀ qs : Raw, (∀ q ∈ qs, (callR q).length ≤ 24580) → (qs.flatMap callR).length ≤ qs.length * 24580
  | [], _ => Nat.le_refl _
  | q :: qs, h => by
    have h1 := h q (List.mem_cons_self ..)
    have h2 := all_len qs fun x hx => h x (List.mem_cons_of_mem _ hx)
    rw [List.flatMap_cons, List.length_append, List.length_cons]
    omega
theorem asked_ok {l : List Int} (h : PyVasedc.answers_asked l = true) : ∃ cs : Calls, l = cs.flatMap encC ∧ (∀ c ∈ cs, RowsOk c.1 c.2 ∧ ∀ b ∈ c.2, b.length ≤ 100000) ∧ (cs.flatMap encC).length ≤ 10000000 ∧ (playL none cs).length ≤ 10000000 ∧ playL none cs = PyVasedc.answers l := by
  unfold PyVasedc.answers_asked at h
  cases hc : PyFlat.calls PyVasedc.shape l.length l with
  | none => rw [hc] at h; cases h
  | some raw =>
    rw [hc] at h
    have h : (!raw.isEmpty && PyFlat.atMost 40 raw && PyInside.calls PyVasedc.bound raw && VasedcNeutral.asked (raw.map PyVasedc.whole) && PyFlat.short 10000000 (PyVasedc.answers l)) = true := h
    obtain ⟨h, h5⟩ := Bool.and_eq_true_iff.mp h
    obtain ⟨h, _⟩ := Bool.and_eq_true_iff.mp h
    obtain ⟨h, h3⟩ := Bool.and_eq_true_iff.mp h
    obtain ⟨_, h2⟩ := Bool.and_eq_true_iff.mp h
    obtain ⟨qs, er, el, hs⟩ := calls_of _ hc
    have h2 : raw.length ≤ 40 := of_decide_eq_true h2
    rw [er, List.length_map] at h2
    have ins : ∀ q ∈ qs, ∀ r ∈ q.2, isB r ∧ r.length ≤ 8192 := fun q hq => inside_ok (hs q hq) (List.all_eq_true.mp h3 (rawC q) (by rw [er]; exact List.mem_map_of_mem hq))
    have ea : PyVasedc.answers l = playL none (callsC qs) := by
      unfold PyVasedc.answers PyVasedc.calls
      rw [hc]
      show PyFlat.told (PyFlat.played VasedcNeutral.step VasedcNeutral.start (raw.map PyVasedc.whole)) = _
      rw [show raw.map PyVasedc.whole = raw from by
        conv => rhs; rw [← List.map_id raw]
        exact List.map_congr_left fun c _ => whole_id c, er]
      exact play_is qs none fun q hq => ⟨hs q hq, fun r hr => (ins q hq r hr).1⟩
    have ee := enc_is (qs := qs) fun q hq r hr => (ins q hq r hr).1
    refine ⟨callsC qs, by rw [ee]; exact el, fun c hcc => ?_, ?_, ?_, ea.symm⟩
    · obtain ⟨q, hq, rfl⟩ := List.mem_map.mp hcc
      refine ⟨rowsOk_of (hs q hq), fun b hb => ?_⟩
      obtain ⟨r, hr, rfl⟩ := List.mem_map.mp hb
      have := (ins q hq r hr).2
      unfold VasedcNeutral.bytesOf
      rw [List.length_map]
      omega
    · rw [ee]
      have := all_len qs fun q hq => callR_len q (hs q hq) fun r hr => (ins q hq r hr).2
      omega
    · rw [← ea]
      exact of_decide_eq_true h5
end Lp
end
section
set_option maxHeartbeats 4000000
/-! ### the row -/
namespace Lp
open PySem PySem.Spec PyProof.Rows L2 He
open PySem.W (Frag WData Codec OpenSpec)
open PySem.Calls
theorem row_walk {d : DefRec} (hd : d.name = "answers") : PySem.W.WalkOS qv names (PySem.W.XL qv []) hookL.says R d [] (fun f vs => PySem.call f vs) := by
  refine walk_ex (k := 13) (CX := L2.CX0) (ps := ["calls"]) (sp := spAnswers) (by decide +kernel) rfl ⟨rfl, by decide, by decide⟩ ?F ?S (fun _ _ _ _ z => z)
  case F =>
    intro w mg fa h Y G hmg
    obtain ⟨K, KX, c⟩ := Y
    rw [hd] at hmg
    obtain ⟨fd, F⟩ := at_answers c
    have hf : (Fa.glo "answers").ok K = true := by
      obtain ⟨i, hi⟩ : ∃ i : Nat, faL[i]? = some (Fa.glo "answers") := ⟨180, rfl⟩
      exact fa_at c i _ hi
    have e := hmg.symm.trans (glo_ok KX G hf)
    cases e
    exact ⟨K, fd, KX, F.bindsA (ps := ["calls"]) (fun _ _ _ _ _ _ us hl => match us, hl with | [_], _ => rfl), fun base _ _ => all_ok KX G c _ fd F⟩
  case S =>
    intro K H xs a hO hwi hask hx
    cases hx with
    | cons h1 h2 =>
      cases h2
      cases h1 with
      | lst hs ha =>
        have e := L2.ints_dw a.1 _ ha
        subst e
        obtain ⟨cs, el, hok, z1, z2, ea⟩ := asked_ok (l := a.1) hask
        rw [el] at hs
        refine ⟨_, cs, rfl, hs, hok, z1, z2, fun r H' s hr => ?_⟩
        rw [ea] at hr
        exact .lst (L2.SqL.of hr) (L2.dw_ints _)
end Lp
end
section
set_option maxHeartbeats 0
open PySem PySem.W PySem.Calls PyProof.Rows Lp
theorem PySem.Challenge.cw_linepatches_s01_answers_holds : PySem.Challenge.rw_linepatches_s01_answers.Holds := by
  refine HandSHeadRun.head_spec (r := R) (q := qv) (H := hookL) (ob := obT) (M := 6000) (loose := names) obT_eq ?e ?f Lp.run (by rfl) (by rfl) (by rfl) os_shapes (by decide +kernel) (by decide +kernel) ?hb ?hw ?call
  case e => kernel_rfl
  case f => intro s; rfl
  case hb => exact ⟨rfl, rfl, rfl, rfl, rfl, by decide +kernel⟩
  case hw => exact ⟨[.list [.int 0, .int 0]], by decide +kernel, by decide +kernel⟩
  case call => exact row_walk rfl
end
