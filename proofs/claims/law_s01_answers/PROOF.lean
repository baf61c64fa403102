import PyProof.Rows.All
import Wide.All
import OpenK.AllK
import Wide.FinOn
import Open.SpecLaws
import KE.OsGo
import KE.KNestM
import KE.KLam
import KE.SortKeyHeap
import HandS.ForSpec
import HandS.ForMost
import HandS.Conv
import HandS.Deep
import HandS.SetFor
import HandS.Zip
import HandS.SortInts
import HandS.SortKw
import HandS.ExcInit
import HandS.ExcField
import HandS.CallSlots
import HandS.Nested
import HandS.EndTab
import HandS.Walk
import PySem.Challenge.RW_cubemeet_s01_answers
import PyKg83
import KE.DataMinMax
import PyFlatLaws
import HandS.ExcOwn
set_option Elab.async false
set_option linter.all false
set_option maxRecDepth 100000
set_option maxHeartbeats 8000000
/-! The text by places, the addresses, what the written part says (printed by gen_base.py) -/
namespace Cm
open PySem PySem.Spec PyProof.Rows L2
def top (i : Nat) : Stmt := PySem.Challenge.pw_cubemeet_s01_answers.main.body.getD i (.Pass ⟨0, 0, 0, 0⟩)
abbrev s_place_of : Stmt := top 5
abbrev s_all_stickers : Stmt := top 6
abbrev s_inner : Stmt := top 7
abbrev s_turned : Stmt := top 8
abbrev s_sources : Stmt := top 9
abbrev s_solved_cube : Stmt := top 11
abbrev s_is_solved : Stmt := top 12
abbrev s_are_moves : Stmt := top 13
abbrev s_third : Stmt := top 23
abbrev s_average : Stmt := top 24
abbrev s_behind : Stmt := top 25
abbrev s_solution_count : Stmt := top 26
abbrev s_must : Stmt := top 37
abbrev s_is_within : Stmt := top 38
abbrev s_begin : Stmt := top 40
abbrev s_begin_round : Stmt := top 41
abbrev s_scramble : Stmt := top 42
abbrev s_must_attempt : Stmt := top 43
abbrev s_put_attempt : Stmt := top 44
abbrev s_time : Stmt := top 45
abbrev s_no_time : Stmt := top 46
abbrev s_solution : Stmt := top 47
abbrev s_card : Stmt := top 48
abbrev s_order : Stmt := top 49
abbrev s_cube : Stmt := top 50
abbrev s_solves : Stmt := top 51
abbrev s_of_rounds : Stmt := top 55
abbrev s_of_cards : Stmt := top 56
abbrev s_answered : Stmt := top 57
abbrev s_lists_at : Stmt := top 58
abbrev s_answers : Stmt := top 59
abbrev s_Turns_init : Stmt := inClass (top 10) 0
abbrev s_Turns_moved : Stmt := inClass (top 10) 1
abbrev s_Round_init : Stmt := inClass (top 22) 0
abbrev s_Round_may_have : Stmt := inClass (top 22) 1
abbrev s_Round_is_over : Stmt := inClass (top 22) 2
abbrev s_Round_best : Stmt := inClass (top 22) 3
abbrev s_Round_result : Stmt := inClass (top 22) 4
abbrev s_Round_rank : Stmt := inClass (top 22) 5
abbrev s_Round_order : Stmt := inClass (top 22) 6
abbrev s_Round_timed : Stmt := inClass (top 22) 7
abbrev s_Meet_init : Stmt := inClass (top 39) 0
abbrev s_Refused_init : Stmt := inClass (top 36) 0
/-- where things stand -/
structure Ads where
  place_of : Addr
  all_stickers : Addr
  inner : Addr
  turned : Addr
  sources : Addr
  solved_cube : Addr
  is_solved : Addr
  are_moves : Addr
  third : Addr
  average : Addr
  behind : Addr
  solution_count : Addr
  must : Addr
  is_within : Addr
  begin : Addr
  begin_round : Addr
  scramble : Addr
  must_attempt : Addr
  put_attempt : Addr
  time : Addr
  no_time : Addr
  solution : Addr
  card : Addr
  order : Addr
  cube : Addr
  solves : Addr
  of_rounds : Addr
  of_cards : Addr
  answered : Addr
  lists_at : Addr
  answers : Addr
  Turns_init : Addr
  Turns_moved : Addr
  Round_init : Addr
  Round_may_have : Addr
  Round_is_over : Addr
  Round_best : Addr
  Round_result : Addr
  Round_rank : Addr
  Round_order : Addr
  Round_timed : Addr
  Meet_init : Addr
  Refused_init : Addr
  CTurns : Addr
  CRound : Addr
  CMeet : Addr
  CRefused : Addr
  tNORMALS : Addr
  n0 : Addr
  n1 : Addr
  n2 : Addr
  n3 : Addr
  n4 : Addr
  n5 : Addr
  tNUMBERS : Addr
  tLISTS : Addr
  cOrder : Addr
  pOrder : Addr
/-- the def st of the text stands at f, its parameters ps -/
def FunAt (K : PySem.W.Frag) (x qual : Str) (st : Stmt) (f : Addr) (ps : List Str) : Prop := ∃ fd : FuncData, Fun K x qual st f fd ∧ Binds K fd ps []
/-- the def at f keeps sp -/
def Has (P : Program) (w : World) (K : PySem.W.Frag) (mg : Str → Option Value) (base : Heap) (CX : CXT) (k : Nat) (f : Addr) (ps : List Str) (sp : Sp) : Prop :=
  ∃ fd : FuncData, FnOk P w K mg base CX k f fd ps sp ∧ Binds K fd ps [] ∧ PySem.W.keepIn K (.ref f) = true
section
variable {P : Program} {w : World} {K : PySem.W.Frag} {mg : Str → Option Value} {base : Heap} {x qual : Str} {st : Stmt} {f : Addr} {N ps : List Str} {k : Nat} {sp : Sp}
theorem FunAt.mk' {oc : Value} {od an : Option Addr} {osl : Array (Option Value)} {kV doc pm cdv ct : Value} (l : K.lookup f = some ⟨oc, od, .func (PySem.W.fnOf x qual (defArgs st) (defBody st) (defScope st) .none kV doc pm an cdv ct), osl⟩) (c : PySem.W.codeIn K cdv qual = true)
    (k : PySem.W.keepIn K (.ref f) = true) (hb : ∀ (kV doc pm : Value) (an : Option Addr) (cdv ct : Value) (us : List Value), us.length = ps.length → bindArgs (PySem.W.fnOf x qual (defArgs st) (defBody st) (defScope st) .none kV doc pm an cdv ct) ⟨us, []⟩ = pure (ps.zip us)) : FunAt K x qual st f ps :=
  ⟨_, fun_mk l c k, (fun_mk l c k).binds hb⟩
theorem FunAt.ok (F : FunAt K x qual st f ps) (S : FnScope N ps (defScope st)) (len : ∀ vs H Q E, sp vs H Q E → vs.length = ps.length)
    (body : ∀ (cdv : Value) (Ar : Around) (fr : List Env) (sh : Shared) (H : Hp) (vs : List V) (Q : VK) (E : XK), Room k (Ar.deeper (envOfC qual (defScope st) sh.heap.objs.size f cdv)) → sp vs H Q E →
      ∃ t, PSs (cxOf CX0 P w K mg base N qual (defScope st) f cdv Ar fr sh H E).nox (defBody st) t ∧ t { nx := fun _ H' => Q .non H', rt := Q } (start N vs) H) : Has P w K mg base CX0 (k + 1) f ps sp := by
  obtain ⟨fd, F, b⟩ := F
  exact ⟨fd, F.ok S len body, b, F.kp⟩
theorem FunAt.okX (F : FunAt K x qual st f ps) (S : FnScope N ps (defScope st)) (len : ∀ vs H Q E, sp vs H Q E → vs.length = ps.length)
    (body : ∀ (cdv : Value) (Ar : Around) (fr : List Env) (sh : Shared) (H : Hp) (vs : List V) (Q : VK) (E : XK), Room k (Ar.deeper (envOfC qual (defScope st) sh.heap.objs.size f cdv)) → sp vs H Q E →
      ∃ t, PSs (cxOf (L2.CX P w) P w K mg base N qual (defScope st) f cdv Ar fr sh H E) (defBody st) t ∧ t { nx := fun _ H' => Q .non H', rt := Q } (start N vs) H) : Has P w K mg base (L2.CX P w) (k + 1) f ps sp := by
  obtain ⟨fd, F, b⟩ := F
  exact ⟨fd, F.okX S len body, b, F.kp⟩
theorem Has.mono {CX : CXT} {j : Nat} (h : Has P w K mg base CX j f ps sp) (hj : j ≤ k) : Has P w K mg base CX k f ps sp := by
  obtain ⟨fd, F, b, kp⟩ := h
  exact ⟨fd, F.mono hj, b, kp⟩
end
/-! ### calls by Has -/
def tCl (sp : Sp) (E : XK) (t : TA) : TE := fun σ H Q => t σ H fun vs H1 => sp vs H1 Q E
def tMt (C : Addr) (m : Str) (sp : Sp) (E : XK) (ta : TE) (t : TA) : TE := fun σ H Q => ta σ H fun x H1 => ∃ a dx fs, x = .ref a ∧ H1 a = some (.ins C dx fs) ∧ fs.lookup m = none ∧ t σ H1 fun vs H2 => sp (x :: vs) H2 Q E
def tMk (C : Addr) (sp : Sp) (E : XK) (t : TA) : TE := fun σ H Q => t σ H fun vs H1 => ∀ x dx, H1 x = none → H1 dx = none → dx ≠ x → sp (.ref x :: vs) (upd (upd H1 dx (.own x)) x (.ins C dx [])) (fun v H2 => v = .non ∧ Q (.ref x) H2) E
section
variable {X : Cx} {CX : CXT} {k : Nat} {f C : Addr} {ps : List Str} {sp : Sp} {E : XK} {x m : Str} {p pos apos : Pos} {e o : Expr} {es : List Expr} {ta : TE} {t : TA}
theorem pe_gi {i : Int} {u : Tok} (hg : Gl X x) (hm : X.mg x = some (.int i u)) (hd : (x == ("__debug__" : Str)) = false := by decide) : PE X (.Name x p) (tC (.int i)) := pe_glob (v := .int i) hg hm ⟨_, rfl⟩ hd
theorem pe_gr {a : Addr} (hg : Gl X x) (hm : X.mg x = some (.ref a)) (hd : (x == ("__debug__" : Str)) = false := by decide) : PE X (.Name x p) (tC (.ref a)) := pe_glob (v := .ref a) hg hm rfl hd
theorem tCl_of (h : PE X e (tCall sp [] E t)) : PE X e (tCl sp E t) := by
  have q : tCl sp E t = tCall sp [] E t := by
    funext σ H Q
    show t σ H (fun vs H1 => sp vs H1 Q E) = t σ H fun vs H1 => sp (vs ++ []) H1 Q E
    simp only [List.append_nil]
  rw [q]
  exact h
theorem tMt_of (h : PE X e (tMeth C m sp [] E ta t)) : PE X e (tMt C m sp E ta t) := by
  have q : tMt C m sp E ta t = tMeth C m sp [] E ta t := by
    funext σ H Q
    unfold tMt tMeth
    simp only [List.append_nil]
  rw [q]
  exact h
theorem tMk_of (h : PE X e (tMake C sp [] E t)) : PE X e (tMk C sp E t) := by
  have q : tMk C sp E t = tMake C sp [] E t := by
    funext σ H Q
    unfold tMk tMake
    simp only [List.append_nil]
  rw [q]
  exact h
theorem pe_c (h : Has X.prog X.w X.K X.mg X.base CX k f ps sp) (hr : Room k X.A) (hg : Gl X x) (hm : X.mg x = some (.ref f)) (hx : Passes CX X E) (ha : PA X (e :: es) t) (hdb : (x == ("__debug__" : Str)) = false := by decide)
    (he : starEach (e :: es) X.env = (false, eval e X.env) :: starEach es X.env := by rfl) (hpl : (backTo pos (starEach es X.env)).any (·.1) = false := by rfl) : PE X (.Call (.Name x p) (e :: es) [] pos) (tCl sp E t) := by
  obtain ⟨fd, F, b, kp⟩ := h
  exact tCl_of (pe_call F hr hg hm kp b .nil hx ha hdb he hpl)
theorem pe_c0 (h : Has X.prog X.w X.K X.mg X.base CX k f ps sp) (hr : Room k X.A) (hg : Gl X x) (hm : X.mg x = some (.ref f)) (hx : Passes CX X E) (hdb : (x == ("__debug__" : Str)) = false := by decide) : PE X (.Call (.Name x p) [] [] pos) (tCl sp E tNil) := by
  obtain ⟨fd, F, b, kp⟩ := h
  exact tCl_of (pe_call0 F hr hg hm kp b .nil hx hdb)
theorem pe_m {pl : Sem Bool} (he : PE X o ta) (c : Cls X.K C) (hm : Meth X.K C m f) (h : Has X.prog X.w X.K X.mg X.base CX k f ps sp) (hr : Room k X.A) (hx : Passes CX X E) (ha : PA X (e :: es) t)
    (h1 : starEach (e :: es) X.env = (false, eval e X.env) :: starEach es X.env := by rfl) (h2 : (backTo pos (starEach es X.env)).any (·.1) = false := by rfl) (h3 : eval (.Call (.Attribute o m apos) (e :: es) [] pos) X.env = (do
      let who ← eval o X.env
      standAt apos.atName
      let (fn, self) ← holding [who] (getMethod who m pl)
      callWith pos fn self (backTo pos (starEach (e :: es) X.env)) (backToKw pos (keywordEach [] X.env))) := by rfl) : PE X (.Call (.Attribute o m apos) (e :: es) [] pos) (tMt C m sp E ta t) := by
  obtain ⟨fd, F, b, kp⟩ := h
  exact tMt_of (pe_meth (pl := pl) he c hm F hr b .nil hx ha h1 h2 h3)
theorem pe_m0 {pl : Sem Bool} (he : PE X o ta) (c : Cls X.K C) (hm : Meth X.K C m f) (h : Has X.prog X.w X.K X.mg X.base CX k f ps sp) (hr : Room k X.A) (hx : Passes CX X E)
    (h3 : eval (.Call (.Attribute o m apos) [] [] pos) X.env = (do
      let who ← eval o X.env
      standAt apos.atName
      let (fn, self) ← holding [who] (getMethod who m pl)
      callWith pos fn self (backTo pos (starEach [] X.env)) (backToKw pos (keywordEach [] X.env))) := by rfl) : PE X (.Call (.Attribute o m apos) [] [] pos) (tMt C m sp E ta tNil) := by
  obtain ⟨fd, F, b, kp⟩ := h
  exact tMt_of (pe_meth0 (pl := pl) he c hm F hr b .nil hx h3)
theorem pe_mk (M : Mk X.K C f) (h : Has X.prog X.w X.K X.mg X.base CX k f ps sp) (hr : Room (k + 1) X.A) (hg : Gl X x) (hm : X.mg x = some (.ref C)) (hx : Passes CX X E) (ha : PA X (e :: es) t) (hdb : (x == ("__debug__" : Str)) = false := by decide)
    (he : starEach (e :: es) X.env = (false, eval e X.env) :: starEach es X.env := by rfl) (hpl : (backTo pos (starEach es X.env)).any (·.1) = false := by rfl) : PE X (.Call (.Name x p) (e :: es) [] pos) (tMk C sp E t) := by
  obtain ⟨fd, F, b, kp⟩ := h
  exact tMk_of (pe_make M F hr hg hm b .nil hx ha hdb he hpl)
theorem pe_mk0 (M : Mk X.K C f) (h : Has X.prog X.w X.K X.mg X.base CX k f ps sp) (hr : Room (k + 1) X.A) (hg : Gl X x) (hm : X.mg x = some (.ref C)) (hx : Passes CX X E) (hdb : (x == ("__debug__" : Str)) = false := by decide) : PE X (.Call (.Name x p) [] [] pos) (tMk C sp E tNil) := by
  obtain ⟨fd, F, b, kp⟩ := h
  exact tMk_of (pe_make0 M F hr hg hm b .nil hx hdb)
end
/-- a tuple of ints of the top -/
def TupK (K : PySem.W.Frag) (a : Addr) (ns : List Int) : Prop := ∀ H : Hp, SqT K H a (ns.map V.int)
structure Txt (K : PySem.W.Frag) (mg : Str → Option Value) (A : Ads) : Prop where
  f_place_of : FunAt K "place_of" "place_of" s_place_of A.place_of ["face", "row", "column"]
  g_place_of : mg "place_of" = some (.ref A.place_of)
  f_all_stickers : FunAt K "all_stickers" "all_stickers" s_all_stickers A.all_stickers []
  g_all_stickers : mg "all_stickers" = some (.ref A.all_stickers)
  f_inner : FunAt K "inner" "inner" s_inner A.inner ["one", "other"]
  g_inner : mg "inner" = some (.ref A.inner)
  f_turned : FunAt K "turned" "turned" s_turned A.turned ["one", "normal"]
  g_turned : mg "turned" = some (.ref A.turned)
  f_sources : FunAt K "sources" "sources" s_sources A.sources ["stickers", "normal"]
  g_sources : mg "sources" = some (.ref A.sources)
  f_solved_cube : FunAt K "solved_cube" "solved_cube" s_solved_cube A.solved_cube []
  g_solved_cube : mg "solved_cube" = some (.ref A.solved_cube)
  f_is_solved : FunAt K "is_solved" "is_solved" s_is_solved A.is_solved ["colours"]
  g_is_solved : mg "is_solved" = some (.ref A.is_solved)
  f_are_moves : FunAt K "are_moves" "are_moves" s_are_moves A.are_moves ["moves", "most"]
  g_are_moves : mg "are_moves" = some (.ref A.are_moves)
  f_third : FunAt K "third" "third" s_third A.third ["total"]
  g_third : mg "third" = some (.ref A.third)
  f_average : FunAt K "average" "average" s_average A.average ["some"]
  g_average : mg "average" = some (.ref A.average)
  f_behind : FunAt K "behind" "behind" s_behind A.behind ["number"]
  g_behind : mg "behind" = some (.ref A.behind)
  f_solution_count : FunAt K "solution_count" "solution_count" s_solution_count A.solution_count ["moves", "solves"]
  g_solution_count : mg "solution_count" = some (.ref A.solution_count)
  f_must : FunAt K "must" "must" s_must A.must ["is_so", "answer"]
  g_must : mg "must" = some (.ref A.must)
  f_is_within : FunAt K "is_within" "is_within" s_is_within A.is_within ["number", "least", "most"]
  g_is_within : mg "is_within" = some (.ref A.is_within)
  f_begin : FunAt K "begin" "begin" s_begin A.begin ["meet", "competitors"]
  g_begin : mg "begin" = some (.ref A.begin)
  f_begin_round : FunAt K "begin_round" "begin_round" s_begin_round A.begin_round ["meet", "kind", "limit", "cutoff", "size"]
  g_begin_round : mg "begin_round" = some (.ref A.begin_round)
  f_scramble : FunAt K "scramble" "scramble" s_scramble A.scramble ["meet", "moves"]
  g_scramble : mg "scramble" = some (.ref A.scramble)
  f_must_attempt : FunAt K "must_attempt" "must_attempt" s_must_attempt A.must_attempt ["meet", "i"]
  g_must_attempt : mg "must_attempt" = some (.ref A.must_attempt)
  f_put_attempt : FunAt K "put_attempt" "put_attempt" s_put_attempt A.put_attempt ["current", "i", "counted"]
  g_put_attempt : mg "put_attempt" = some (.ref A.put_attempt)
  f_time : FunAt K "time" "time" s_time A.time ["meet", "i", "hundredths", "penalties"]
  g_time : mg "time" = some (.ref A.time)
  f_no_time : FunAt K "no_time" "no_time" s_no_time A.no_time ["meet", "i"]
  g_no_time : mg "no_time" = some (.ref A.no_time)
  f_solution : FunAt K "solution" "solution" s_solution A.solution ["meet", "i", "moves"]
  g_solution : mg "solution" = some (.ref A.solution)
  f_card : FunAt K "card" "card" s_card A.card ["meet", "i"]
  g_card : mg "card" = some (.ref A.card)
  f_order : FunAt K "order" "order" s_order A.order ["meet"]
  g_order : mg "order" = some (.ref A.order)
  f_cube : FunAt K "cube" "cube" s_cube A.cube ["meet", "moves"]
  g_cube : mg "cube" = some (.ref A.cube)
  f_solves : FunAt K "solves" "solves" s_solves A.solves ["meet", "first", "second"]
  g_solves : mg "solves" = some (.ref A.solves)
  f_of_rounds : FunAt K "of_rounds" "of_rounds" s_of_rounds A.of_rounds ["meet", "kind", "numbers", "lists"]
  g_of_rounds : mg "of_rounds" = some (.ref A.of_rounds)
  f_of_cards : FunAt K "of_cards" "of_cards" s_of_cards A.of_cards ["meet", "kind", "numbers", "lists"]
  g_of_cards : mg "of_cards" = some (.ref A.of_cards)
  f_answered : FunAt K "answered" "answered" s_answered A.answered ["meet", "kind", "numbers", "lists"]
  g_answered : mg "answered" = some (.ref A.answered)
  f_lists_at : FunAt K "lists_at" "lists_at" s_lists_at A.lists_at ["calls", "at", "many"]
  g_lists_at : mg "lists_at" = some (.ref A.lists_at)
  f_answers : FunAt K "answers" "answers" s_answers A.answers ["calls"]
  g_answers : mg "answers" = some (.ref A.answers)
  f_Turns_init : FunAt K "__init__" "Turns.__init__" s_Turns_init A.Turns_init ["self"]
  f_Turns_moved : FunAt K "moved" "Turns.moved" s_Turns_moved A.Turns_moved ["self", "colours", "moves"]
  f_Round_init : FunAt K "__init__" "Round.__init__" s_Round_init A.Round_init ["self", "kind", "limit", "cutoff", "members"]
  f_Round_may_have : FunAt K "may_have" "Round.may_have" s_Round_may_have A.Round_may_have ["self", "member"]
  f_Round_is_over : FunAt K "is_over" "Round.is_over" s_Round_is_over A.Round_is_over ["self"]
  f_Round_best : FunAt K "best" "Round.best" s_Round_best A.Round_best ["self", "member"]
  f_Round_result : FunAt K "result" "Round.result" s_Round_result A.Round_result ["self", "member"]
  f_Round_rank : FunAt K "rank" "Round.rank" s_Round_rank A.Round_rank ["self", "member"]
  f_Round_timed : FunAt K "timed" "Round.timed" s_Round_timed A.Round_timed ["self", "hundredths", "penalties"]
  f_Meet_init : FunAt K "__init__" "Meet.__init__" s_Meet_init A.Meet_init ["self"]
  f_Refused_init : FunAt K "__init__" "Refused.__init__" s_Refused_init A.Refused_init ["self", "answer", "words"]
  f_Round_order : ∃ (oc : Value) (od : Option Addr) (kV doc pm : Value) (an : Option Addr) (ct : Value) (osl : Array (Option Value)), K.lookup A.Round_order = some ⟨oc, od, .func (PySem.W.fnOf "order" "Round.order" (defArgs s_Round_order) (defBody s_Round_order) (defScope s_Round_order) .none kV doc pm an (.ref A.cOrder) ct), osl⟩
  cd_Round_order : PySem.W.codeIn K (.ref A.cOrder) "Round.order" = true
  kp_Round_order : PySem.W.keepIn K (.ref A.Round_order) = true
  hd_Round_order : PySem.W.codeHdIn K A.cOrder A.pOrder = true
  b_range : mg "range" = none
  b_len : mg "len" = none
  b_list : mg "list" = none
  b_enumerate : mg "enumerate" = none
  b_set : mg "set" = none
  b_sorted : mg "sorted" = none
  b_min : mg "min" = none
  b_sum : mg "sum" = none
  b_int : mg "int" = none
  b_ValueError : mg "ValueError" = none
  i_FACES : ∃ t, mg "FACES" = some (.int 6 t)
  i_MOVES : ∃ t, mg "MOVES" = some (.int 18 t)
  i_STICKERS : ∃ t, mg "STICKERS" = some (.int 54 t)
  i_AVERAGE : ∃ t, mg "AVERAGE" = some (.int 0 t)
  i_BEST : ∃ t, mg "BEST" = some (.int 2 t)
  i_FEWEST : ∃ t, mg "FEWEST" = some (.int 3 t)
  i_NONE : ∃ t, mg "NONE" = some (.int (-1) t)
  i_PENALTY : ∃ t, mg "PENALTY" = some (.int 200 t)
  i_FOR_MOVE : ∃ t, mg "FOR_MOVE" = some (.int 100 t)
  i_MOST_MOVES_rounds : ∃ t, mg "MOST_MOVES_rounds" = some (.int 80 t)
  i_MOST_COMPETITORS : ∃ t, mg "MOST_COMPETITORS" = some (.int 40 t)
  i_MOST_TIME : ∃ t, mg "MOST_TIME" = some (.int 360000 t)
  i_MOST_HUNDREDTHS : ∃ t, mg "MOST_HUNDREDTHS" = some (.int 1000000 t)
  i_MOST_PENALTIES : ∃ t, mg "MOST_PENALTIES" = some (.int 9 t)
  i_MOST_SCRAMBLE : ∃ t, mg "MOST_SCRAMBLE" = some (.int 30 t)
  i_MOST_SOLUTION : ∃ t, mg "MOST_SOLUTION" = some (.int 90 t)
  i_MOST_MOVES_desks : ∃ t, mg "MOST_MOVES_desks" = some (.int 60 t)
  i_SCRAMBLES : ∃ t, mg "SCRAMBLES" = some (.int 3 t)
  g_NUMBERS : mg "NUMBERS" = some (.ref A.tNUMBERS)
  t_NUMBERS : TupK K A.tNUMBERS [0, 1, 4, 0, 3, 1, 1, 1, 0, 0, 0]
  g_LISTS : mg "LISTS" = some (.ref A.tLISTS)
  t_LISTS : TupK K A.tLISTS [0, 0, 0, 1, 0, 0, 1, 0, 0, 1, 2]
  g_NORMALS : mg "NORMALS" = some (.ref A.tNORMALS)
  t_NORMALS : ∀ H : Hp, SqT K H A.tNORMALS [.ref A.n0, .ref A.n1, .ref A.n2, .ref A.n3, .ref A.n4, .ref A.n5]
  t_n0 : TupK K A.n0 [0, 1, 0]
  t_n1 : TupK K A.n1 [1, 0, 0]
  t_n2 : TupK K A.n2 [0, 0, 1]
  t_n3 : TupK K A.n3 [0, -1, 0]
  t_n4 : TupK K A.n4 [-1, 0, 0]
  t_n5 : TupK K A.n5 [0, 0, -1]
  g_Turns : mg "Turns" = some (.ref A.CTurns)
  c_Turns : Cls K A.CTurns
  k_Turns : Mk K A.CTurns A.Turns_init
  n_Turns_rows : NoAttr K A.CTurns "rows"
  m_Turns_moved : Meth K A.CTurns "moved" A.Turns_moved
  g_Round : mg "Round" = some (.ref A.CRound)
  c_Round : Cls K A.CRound
  k_Round : Mk K A.CRound A.Round_init
  n_Round_kind : NoAttr K A.CRound "kind"
  n_Round_limit : NoAttr K A.CRound "limit"
  n_Round_cutoff : NoAttr K A.CRound "cutoff"
  n_Round_members : NoAttr K A.CRound "members"
  n_Round_attempts : NoAttr K A.CRound "attempts"
  n_Round_scrambles : NoAttr K A.CRound "scrambles"
  m_Round_may_have : Meth K A.CRound "may_have" A.Round_may_have
  m_Round_is_over : Meth K A.CRound "is_over" A.Round_is_over
  m_Round_best : Meth K A.CRound "best" A.Round_best
  m_Round_result : Meth K A.CRound "result" A.Round_result
  m_Round_rank : Meth K A.CRound "rank" A.Round_rank
  m_Round_order : Meth K A.CRound "order" A.Round_order
  m_Round_timed : Meth K A.CRound "timed" A.Round_timed
  g_Meet : mg "Meet" = some (.ref A.CMeet)
  c_Meet : Cls K A.CMeet
  k_Meet : Mk K A.CMeet A.Meet_init
  n_Meet_turns : NoAttr K A.CMeet "turns"
  n_Meet_competitors : NoAttr K A.CMeet "competitors"
  n_Meet_rounds : NoAttr K A.CMeet "rounds"
  n_Meet_current : NoAttr K A.CMeet "current"
  g_Refused : mg "Refused" = some (.ref A.CRefused)
  o_Refused : OexC K A.CRefused
  x_Refused : XfC K A.CRefused
  n_Refused : PySem.W.findIn K (.ref A.CRefused) "answer" = some none
  y_Refused : PySem.W.findIn K (.ref A.CRefused) "__init__" = some (some (.ref A.Refused_init))
  z_Refused : PySem.W.typeIn K (.ref A.Refused_init) = some (.type "function")
  e_Refused : PySem.W.exmOne K (.ref A.CRefused) (.ref A.CRefused) = some true
  v_Refused : PySem.W.findCls K (.type "ValueError") (.type "type") "__init__" = some (.val (.builtin "ValueError.__init__"))
end Cm
/-! The cube, plain -/
namespace Cm
def spotK (n : Nat) : Kg83.Spot := Kg83.spot (n / 9) (n % 9 / 3) (n % 3)
theorem spots_eq : Kg83.spots = (List.range 54).map spotK := by decide +kernel
def v3 (v : Kg83.V) : List Int := [v.x, v.y, v.z]
/-- the program's turn about a way out -/
def pyTurn (v n : Kg83.V) : Kg83.V := ⟨v.y * n.z - v.z * n.y + Kg83.dot v n * n.x, v.z * n.x - v.x * n.z + Kg83.dot v n * n.y, v.x * n.y - v.y * n.x + Kg83.dot v n * n.z⟩
def pyGoes (f k : Nat) : Kg83.Spot := ⟨pyTurn (spotK k).at_ (Kg83.way f), pyTurn (spotK k).out (Kg83.way f)⟩
def idx (s : Kg83.Spot) : Nat := (List.range 54).findIdx fun k => spotK k == s
def rowStep (f : Nat) (acc : List Nat) (k : Nat) : List Nat := if Kg83.dot (spotK k).at_ (Kg83.way f) = 1 then acc.set (idx (pyGoes f k)) k else acc
def pyRow (f n : Nat) : List Nat := (List.range n).foldl (rowStep f) (List.range 54)
def rowT (f : Nat) : List Nat := pyRow f 54
theorem pyRow_succ (f n : Nat) : pyRow f (n + 1) = rowStep f (pyRow f n) n := by
  unfold pyRow
  rw [List.range_succ (n := n), List.foldl_append]
  rfl
theorem pyRow_length (f : Nat) : ∀ n, (pyRow f n).length = 54
  | 0 => rfl
  | n + 1 => by
    rw [pyRow_succ]
    unfold rowStep
    split
    · rw [List.length_set]
      exact pyRow_length f n
    · exact pyRow_length f n
theorem idx_lt : ∀ f < 6, ∀ k < 54, Kg83.dot (spotK k).at_ (Kg83.way f) = 1 → idx (pyGoes f k) < 54 := by decide +kernel
def srcRow (f : Nat) : List Nat := Kg83.spots.map fun t => Kg83.spots.findIdx fun s => Kg83.goes f s == t
theorem row_eq : ∀ f < 6, rowT f = srcRow f := by decide +kernel
theorem row_lt : ∀ f < 6, ∀ k ∈ rowT f, k < 54 := by decide +kernel
theorem zip_find {α : Type} (p : α → Bool) : ∀ (l : List α) (c : List Nat), c.length = l.length → ((l.zip c).find? fun x => p x.1).elim 0 (fun x => x.2) = c.getD (l.findIdx p) 0
  | [], [], _ => rfl
  | [], _ :: _, h => by simp at h
  | _ :: _, [], h => by simp at h
  | a :: l, x :: c, h => by
    rw [List.zip_cons_cons, List.find?_cons, List.findIdx_cons]
    cases e : p a with
    | true => simp [e]
    | false =>
      have ih := zip_find p l c (by simpa using h)
      simp only [e]
      rw [ih]
      simp
theorem turned_row {f : Nat} (hf : f < 6) {c : List Nat} (h : c.length = 54) : Kg83.turned f c = (rowT f).map fun k => c.getD k 0 := by
  rw [row_eq f hf]
  unfold Kg83.turned srcRow
  rw [List.map_map]
  refine List.map_congr_left fun t _ => ?_
  exact zip_find (fun s => Kg83.goes f s == t) Kg83.spots c (by rw [h, spots_eq]; simp)
theorem turned_length (f : Nat) (c : List Nat) : (Kg83.turned f c).length = 54 := by
  unfold Kg83.turned
  rw [List.length_map, spots_eq]
  simp
theorem times_succ (g : Kg83.Cube → Kg83.Cube) : ∀ (n : Nat) (c : Kg83.Cube), Kg83.times_ (n + 1) g c = g (Kg83.times_ n g c)
  | 0, _ => rfl
  | n + 1, c => by
    show Kg83.times_ (n + 1) g (g c) = g (Kg83.times_ n g (g c))
    exact times_succ g n (g c)
theorem times_length (f : Nat) : ∀ (n : Nat) (c : Kg83.Cube), c.length = 54 → (Kg83.times_ n (Kg83.turned f) c).length = 54
  | 0, _, h => h
  | n + 1, c, _ => by
    rw [times_succ]
    exact turned_length f _
theorem move_length (c : Kg83.Cube) (m : Nat) : c.length = 54 → (Kg83.move c m).length = 54 := times_length _ _ _
theorem moves_length : ∀ (l : List Nat) (c : Kg83.Cube), c.length = 54 → (Kg83.moves c l).length = 54
  | [], _, h => h
  | m :: l, c, h => moves_length l (Kg83.move c m) (move_length c m h)
theorem moves_append (c : Kg83.Cube) (a b : List Nat) : Kg83.moves c (a ++ b) = Kg83.moves (Kg83.moves c a) b := List.foldl_append
theorem solved_length : Kg83.solved.length = 54 := by decide +kernel
theorem solved_eq : Kg83.solved = (List.range 54).map fun k => k / 9 := rfl
theorem moves_snoc (c : Kg83.Cube) (a : List Nat) (m : Nat) : Kg83.moves c (a ++ [m]) = Kg83.move (Kg83.moves c a) m := by
  rw [moves_append]
  rfl
theorem spot0 (r c : Nat) : v3 (Kg83.spot 0 r c).at_ = [(c : Int) - 1, 1, (r : Int) - 1] := by
  show [(c : Int) - 1, 1, -(1 - (r : Int))] = _
  rw [show -(1 - (r : Int)) = (r : Int) - 1 by omega]
theorem spot1 (r c : Nat) : v3 (Kg83.spot 1 r c).at_ = [1, 1 - (r : Int), 1 - (c : Int)] := by
  show [1, 1 - (r : Int), -((c : Int) - 1)] = _
  rw [show -((c : Int) - 1) = 1 - (c : Int) by omega]
theorem spot2 (r c : Nat) : v3 (Kg83.spot 2 r c).at_ = [(c : Int) - 1, 1 - (r : Int), 1] := rfl
theorem spot3 (r c : Nat) : v3 (Kg83.spot 3 r c).at_ = [(c : Int) - 1, -1, 1 - (r : Int)] := rfl
theorem spot4 (r c : Nat) : v3 (Kg83.spot 4 r c).at_ = [-1, 1 - (r : Int), (c : Int) - 1] := rfl
theorem spot5 (r c : Nat) : v3 (Kg83.spot 5 r c).at_ = [1 - (c : Int), 1 - (r : Int), -1] := by
  show [-((c : Int) - 1), 1 - (r : Int), -1] = _
  rw [show -((c : Int) - 1) = 1 - (c : Int) by omega]
end Cm
namespace Cm
open PySem PySem.Spec PyProof.Rows L2
theorem ifT {c : Bool} {A B : Prop} (hc : c = true) (h : A) : if c = true then A else B := by
  rw [if_pos hc]
  exact h
theorem ifF {c : Bool} {A B : Prop} (hc : c = false) (h : B) : if c = true then A else B := by
  rw [hc, if_neg Bool.false_ne_true]
  exact h
theorem dT {p : Prop} [Decidable p] {A B : Prop} (hc : p) (h : A) : if decide p = true then A else B := ifT (decide_eq_true hc) h
theorem dF {p : Prop} [Decidable p] {A B : Prop} (hc : ¬ p) (h : B) : if decide p = true then A else B := ifF (decide_eq_false hc) h
section
variable {P : Program} {w : World} {K : PySem.W.Frag} {mg : Str → Option Value} {base : Heap} {A : Ads}
/-! place_of -/
def spPlace : Sp := fun vs H Q _ => ∃ f r c : Nat, vs = [.int f, .int r, .int c] ∧ f < 6 ∧ ∀ p, H p = none → Q (.ref p) (upd H p (.tup ((v3 (Kg83.spot f r c).at_).map V.int)))
theorem sc_place_of : FnScope ["face", "row", "column"] ["face", "row", "column"] (defScope s_place_of) := ⟨rfl, rfl, rfl, by decide +kernel, rfl, by decide +kernel, by decide +kernel⟩
theorem ok_place_of (T : Txt K mg A) : Has P w K mg base CX0 1 A.place_of ["face", "row", "column"] spPlace := by
  refine T.f_place_of.ok sc_place_of (fun vs H Q E h => ?_) (fun cdv Ar outer s H vs Q E hr h => ?_)
  · obtain ⟨_, _, _, rfl, _⟩ := h
    rfl
  obtain ⟨f, r, c, rfl, hf, k⟩ := h
  refine ⟨_, (pss_cons (ps_if (pt_cmpR op_eq (pv 0) pe_int (nomark _)) (pss_one (ps_ret (pe_tup (pa_cons (pe_op op_sub (pv 2) pe_int) (pa_cons pe_int (pa_cons (pe_op op_sub (pv 1) pe_int) pa_nil)))))) pss_nil)
    (pss_cons (ps_if (pt_cmpR op_eq (pv 0) pe_int (nomark _)) (pss_one (ps_ret (pe_tup (pa_cons pe_int (pa_cons (pe_op op_sub pe_int (pv 1)) (pa_cons (pe_op op_sub pe_int (pv 2)) pa_nil)))))) pss_nil)
    (pss_cons (ps_if (pt_cmpR op_eq (pv 0) pe_int (nomark _)) (pss_one (ps_ret (pe_tup (pa_cons (pe_op op_sub (pv 2) pe_int) (pa_cons (pe_op op_sub pe_int (pv 1)) (pa_cons pe_int pa_nil)))))) pss_nil)
    (pss_cons (ps_if (pt_cmpR op_eq (pv 0) pe_int (nomark _)) (pss_one (ps_ret (pe_tup (pa_cons (pe_op op_sub (pv 2) pe_int) (pa_cons (pe_un un_neg pe_int) (pa_cons (pe_op op_sub pe_int (pv 1)) pa_nil)))))) pss_nil)
    (pss_cons (ps_if (pt_cmpR op_eq (pv 0) pe_int (nomark _)) (pss_one (ps_ret (pe_tup (pa_cons (pe_un un_neg pe_int) (pa_cons (pe_op op_sub pe_int (pv 1)) (pa_cons (pe_op op_sub (pv 2) pe_int) pa_nil)))))) pss_nil)
    (pss_one (ps_ret (pe_tup (pa_cons (pe_op op_sub pe_int (pv 2)) (pa_cons (pe_op op_sub pe_int (pv 1)) (pa_cons (pe_un un_neg pe_int) pa_nil))))))))))), ?_⟩
  have ne : ∀ {j : Nat}, f ≠ j → ¬ V.int (f : Int) = V.int (j : Int) := fun h z => by
    injection z with z
    omega
  refine ⟨_, rfl, rfl, _, rfl, ?_⟩
  by_cases h0 : f = 0
  · subst h0
    refine dT rfl ⟨_, rfl, _, _, rfl, rfl, _, rfl, _, _, rfl, rfl, (by show 3 ≤ sizeLine; decide), fun p hp => ?_⟩
    have q := k p hp
    rw [spot0] at q
    exact q
  refine dF (ne h0) ⟨_, rfl, rfl, _, rfl, ?_⟩
  by_cases h1 : f = 1
  · subst h1
    refine dT rfl ⟨_, rfl, _, _, rfl, rfl, _, rfl, _, _, rfl, rfl, (by show 3 ≤ sizeLine; decide), fun p hp => ?_⟩
    have q := k p hp
    rw [spot1] at q
    exact q
  refine dF (ne h1) ⟨_, rfl, rfl, _, rfl, ?_⟩
  by_cases h2 : f = 2
  · subst h2
    refine dT rfl ⟨_, rfl, _, _, rfl, rfl, _, rfl, _, _, rfl, rfl, (by show 3 ≤ sizeLine; decide), fun p hp => ?_⟩
    exact k p hp
  refine dF (ne h2) ⟨_, rfl, rfl, _, rfl, ?_⟩
  by_cases h3 : f = 3
  · subst h3
    refine dT rfl ⟨_, rfl, _, _, rfl, rfl, _, rfl, _, rfl, _, _, rfl, rfl, (by show 3 ≤ sizeLine; decide), fun p hp => ?_⟩
    exact k p hp
  refine dF (ne h3) ⟨_, rfl, rfl, _, rfl, ?_⟩
  by_cases h4 : f = 4
  · subst h4
    refine dT rfl ⟨_, rfl, _, rfl, _, _, rfl, rfl, _, rfl, _, _, rfl, rfl, (by show 3 ≤ sizeLine; decide), fun p hp => ?_⟩
    exact k p hp
  obtain rfl : f = 5 := by omega
  refine dF (ne h4) ⟨_, rfl, _, _, rfl, rfl, _, rfl, _, _, rfl, rfl, _, rfl, (by show 3 ≤ sizeLine; decide), fun p hp => ?_⟩
  have q := k p hp
  rw [spot5] at q
  exact q
/-! inner, turned -/
def Sm (v : Kg83.V) : Prop := (-1000 ≤ v.x ∧ v.x ≤ 1000) ∧ (-1000 ≤ v.y ∧ v.y ≤ 1000) ∧ (-1000 ≤ v.z ∧ v.z ≤ 1000)
theorem sm64 {z : Int} (h : -1000 ≤ z ∧ z ≤ 1000) : -(2 ^ 64) < z ∧ z < 2 ^ 64 := by omega
def TupV (K : PySem.W.Frag) (H : Hp) (a : Addr) (v : Kg83.V) : Prop := SqT K H a ((v3 v).map V.int)
theorem v3_0 (v : Kg83.V) : atI ((v3 v).map V.int) 0 = some (.int v.x) := rfl
theorem v3_1 (v : Kg83.V) : atI ((v3 v).map V.int) 1 = some (.int v.y) := rfl
theorem v3_2 (v : Kg83.V) : atI ((v3 v).map V.int) 2 = some (.int v.z) := rfl
def spInner (K : PySem.W.Frag) : Sp := fun vs H Q _ => ∃ (a b : Addr) (u v : Kg83.V), vs = [.ref a, .ref b] ∧ TupV K H a u ∧ TupV K H b v ∧ Sm u ∧ Q (.int (Kg83.dot u v)) H
theorem sc_inner : FnScope ["one", "other"] ["one", "other"] (defScope s_inner) := ⟨rfl, rfl, rfl, by decide +kernel, rfl, by decide +kernel, by decide +kernel⟩
theorem ok_inner (T : Txt K mg A) : Has P w K mg base CX0 1 A.inner ["one", "other"] (spInner K) := by
  refine T.f_inner.ok sc_inner (fun vs H Q E h => ?_) (fun cdv Ar outer s H vs Q E hr h => ?_)
  · obtain ⟨_, _, _, _, rfl, _⟩ := h
    rfl
  obtain ⟨a, b, u, v, rfl, ha, hb, su, k⟩ := h
  refine ⟨_, (pss_one (ps_ret (pe_op op_add (pe_op op_add (pe_op op_mul (pe_ix ix_tup (pv 0) pe_int (fun _ _ => rfl)) (pe_ix ix_tup (pv 1) pe_int (fun _ _ => rfl))) (pe_op op_mul (pe_ix ix_tup (pv 0) pe_int (fun _ _ => rfl)) (pe_ix ix_tup (pv 1) pe_int (fun _ _ => rfl)))) (pe_op op_mul (pe_ix ix_tup (pv 0) pe_int (fun _ _ => rfl)) (pe_ix ix_tup (pv 1) pe_int (fun _ _ => rfl)))))), ?_⟩
  refine ⟨_, rfl, a, _, 0, _, rfl, rfl, ha, v3_0 u, _, rfl, b, _, 0, _, rfl, rfl, hb, v3_0 v, _, _, rfl, rfl, .inl (sm64 su.1), ?_⟩
  refine ⟨_, rfl, a, _, 1, _, rfl, rfl, ha, v3_1 u, _, rfl, b, _, 1, _, rfl, rfl, hb, v3_1 v, _, _, rfl, rfl, .inl (sm64 su.2.1), _, _, rfl, rfl, ?_⟩
  refine ⟨_, rfl, a, _, 2, _, rfl, rfl, ha, v3_2 u, _, rfl, b, _, 2, _, rfl, rfl, hb, v3_2 v, _, _, rfl, rfl, .inl (sm64 su.2.2), _, _, rfl, rfl, ?_⟩
  exact k
def spTurned (K : PySem.W.Frag) : Sp := fun vs H Q _ => ∃ (a b : Addr) (u v : Kg83.V), vs = [.ref a, .ref b] ∧ TupV K H a u ∧ TupV K H b v ∧ Sm u ∧ Sm v ∧ ∀ p, H p = none → Q (.ref p) (upd H p (.tup ((v3 (pyTurn u v)).map V.int)))
theorem sc_turned : FnScope ["one", "normal", "along", "x", "y", "z"] ["one", "normal"] (defScope s_turned) := ⟨rfl, rfl, rfl, by decide +kernel, rfl, by decide +kernel, by decide +kernel⟩
theorem ok_turned (T : Txt K mg A) : Has P w K mg base CX0 2 A.turned ["one", "normal"] (spTurned K) := by
  refine T.f_turned.ok sc_turned (fun vs H Q E h => ?_) (fun cdv Ar outer s H vs Q E hr h => ?_)
  · obtain ⟨_, _, _, _, rfl, _⟩ := h
    rfl
  obtain ⟨a, b, u, v, rfl, ha, hb, su, sv, k⟩ := h
  have G_inner := ok_inner (P := P) (w := w) (base := base) T
  refine ⟨_, (pss_cons (ps_set (i := 2) sc_turned.nd rfl (Or.inl rfl) (pe_c G_inner (hr.mono (by decide)) rfl T.g_inner pass0 (pa_cons (pv 0) (pa_cons (pv 1) pa_nil))))
    (pss_cons (ps_set (i := 3) sc_turned.nd rfl (Or.inl rfl) (pe_op op_add (pe_op op_sub (pe_op op_mul (pe_ix ix_tup (pv 0) pe_int (fun _ _ => rfl)) (pe_ix ix_tup (pv 1) pe_int (fun _ _ => rfl))) (pe_op op_mul (pe_ix ix_tup (pv 0) pe_int (fun _ _ => rfl)) (pe_ix ix_tup (pv 1) pe_int (fun _ _ => rfl)))) (pe_op op_mul (pv 2) (pe_ix ix_tup (pv 1) pe_int (fun _ _ => rfl)))))
    (pss_cons (ps_set (i := 4) sc_turned.nd rfl (Or.inl rfl) (pe_op op_add (pe_op op_sub (pe_op op_mul (pe_ix ix_tup (pv 0) pe_int (fun _ _ => rfl)) (pe_ix ix_tup (pv 1) pe_int (fun _ _ => rfl))) (pe_op op_mul (pe_ix ix_tup (pv 0) pe_int (fun _ _ => rfl)) (pe_ix ix_tup (pv 1) pe_int (fun _ _ => rfl)))) (pe_op op_mul (pv 2) (pe_ix ix_tup (pv 1) pe_int (fun _ _ => rfl)))))
    (pss_cons (ps_set (i := 5) sc_turned.nd rfl (Or.inl rfl) (pe_op op_add (pe_op op_sub (pe_op op_mul (pe_ix ix_tup (pv 0) pe_int (fun _ _ => rfl)) (pe_ix ix_tup (pv 1) pe_int (fun _ _ => rfl))) (pe_op op_mul (pe_ix ix_tup (pv 0) pe_int (fun _ _ => rfl)) (pe_ix ix_tup (pv 1) pe_int (fun _ _ => rfl)))) (pe_op op_mul (pv 2) (pe_ix ix_tup (pv 1) pe_int (fun _ _ => rfl)))))
    (pss_one (ps_ret (pe_tup (pa_cons (pv 3) (pa_cons (pv 4) (pa_cons (pv 5) pa_nil)))))))))), ?_⟩
  refine ⟨_, rfl, _, rfl, a, b, u, v, rfl, ha, hb, su, ?_⟩
  refine ⟨_, rfl, a, _, 1, _, rfl, rfl, ha, v3_1 u, _, rfl, b, _, 2, _, rfl, rfl, hb, v3_2 v, _, _, rfl, rfl, .inl (sm64 su.2.1), ?_⟩
  refine ⟨_, rfl, a, _, 2, _, rfl, rfl, ha, v3_2 u, _, rfl, b, _, 1, _, rfl, rfl, hb, v3_1 v, _, _, rfl, rfl, .inl (sm64 su.2.2), _, _, rfl, rfl, ?_⟩
  refine ⟨_, rfl, _, rfl, b, _, 0, _, rfl, rfl, hb, v3_0 v, _, _, rfl, rfl, .inr (sm64 sv.1), _, _, rfl, rfl, ?_⟩
  refine ⟨_, rfl, a, _, 2, _, rfl, rfl, ha, v3_2 u, _, rfl, b, _, 0, _, rfl, rfl, hb, v3_0 v, _, _, rfl, rfl, .inl (sm64 su.2.2), ?_⟩
  refine ⟨_, rfl, a, _, 0, _, rfl, rfl, ha, v3_0 u, _, rfl, b, _, 2, _, rfl, rfl, hb, v3_2 v, _, _, rfl, rfl, .inl (sm64 su.1), _, _, rfl, rfl, ?_⟩
  refine ⟨_, rfl, _, rfl, b, _, 1, _, rfl, rfl, hb, v3_1 v, _, _, rfl, rfl, .inr (sm64 sv.2.1), _, _, rfl, rfl, ?_⟩
  refine ⟨_, rfl, a, _, 0, _, rfl, rfl, ha, v3_0 u, _, rfl, b, _, 1, _, rfl, rfl, hb, v3_1 v, _, _, rfl, rfl, .inl (sm64 su.1), ?_⟩
  refine ⟨_, rfl, a, _, 1, _, rfl, rfl, ha, v3_1 u, _, rfl, b, _, 0, _, rfl, rfl, hb, v3_0 v, _, _, rfl, rfl, .inl (sm64 su.2.1), _, _, rfl, rfl, ?_⟩
  refine ⟨_, rfl, _, rfl, b, _, 2, _, rfl, rfl, hb, v3_2 v, _, _, rfl, rfl, .inr (sm64 sv.2.2), _, _, rfl, rfl, ?_⟩
  exact ⟨_, rfl, _, rfl, _, rfl, (by show 3 ≤ sizeLine; decide), fun p hp => k p hp⟩
end
end Cm
namespace Cm
open PySem PySem.Spec PyProof.Rows L2
/-! heaps -/
theorem Same.new {H : Hp} {p : Addr} {o : HO} (h : H p = none) : Same H (upd H p o) := fun b u e => by
  rw [upd_ne (ne_of_none e h)]
  exact e
theorem Same.sqT {K : PySem.W.Frag} {H H' : Hp} {a : Addr} {xs : List V} (e : Same H H') (h : SqT K H a xs) : SqT K H' a xs := by
  rcases h with (h | ⟨o, h⟩) | h
  · exact .inl (.inl (e _ _ h))
  · exact .inl (.inr ⟨o, e _ _ h⟩)
  · exact .inr h
mutual
theorem Dp.same {K : PySem.W.Frag} {H H' : Hp} (e : Same H H') : ∀ (d : PyData) (v : V), Dp K H v d → Dp K H' v d
  | .none, _, h => by cases h; exact .non
  | .bool b, _, h => by cases h; exact .bl b
  | .int i, _, h => by cases h; exact .int i
  | .str x, _, h => by cases h; exact .str x
  | .list ds, _, h => by
    cases h with
    | lst hs ha => exact .lst (e.seq hs) (DpAll.same e ds _ ha)
  | .tuple ds, _, h => by
    cases h with
    | tup hs ha => exact .tup (Same.sqT e hs) (DpAll.same e ds _ ha)
  | .dict _, _, h => by cases h
theorem DpAll.same {K : PySem.W.Frag} {H H' : Hp} (e : Same H H') : ∀ (ds : List PyData) (vs : List V), DpAll K H vs ds → DpAll K H' vs ds
  | [], _, h => by cases h; exact .nil
  | d :: ds, _, h => by
    cases h with
    | cons h1 h2 => exact .cons (Dp.same e d _ h1) (DpAll.same e ds _ h2)
end
theorem for_rng0 {n : Nat} {g : TG} {tb : TS} {D : Ends} {σ : L2.St} {H : Hp} (Pv : Nat → L2.St → Hp → Prop) (h0 : Pv 0 σ H)
    (hs : ∀ i σ H, i < n → Pv i σ H → g (.int (i : Int)) σ H fun σ2 H2 => tb { D with nx := Pv (i + 1), ct := Pv (i + 1), bk := D.nx } σ2 H2) (hd : ∀ σ H, Pv n σ H → D.nx σ H) :
    ∃ W : Nat → Nat → L2.St → Hp → Prop, (∃ m, W 0 m σ H) ∧ ∀ i m σ H, W i m σ H → ((Itr 0 n).stop i H ∧ D.nx σ H) ∨ ((Itr 0 n).go i H ∧ ∃ N : L2.St → Hp → Prop, (∀ σ' H', N σ' H' → ∃ m', m' < m ∧ W (i + 1) m' σ' H') ∧ ∀ x H', (Itr 0 n).yld i H x H' → g x σ H' fun σ2 H2 => tb { D with nx := N, ct := N, bk := D.nx } σ2 H2) :=
  for_range (lo := 0) Pv h0 (fun i σ H hi p => by rw [Int.zero_add]; exact hs i σ H hi p) hd
section
variable {P : Program} {w : World} {K : PySem.W.Frag} {mg : Str → Option Value} {base : Heap} {A : Ads}
/-! the normals -/
def nAd (A : Ads) : Nat → Addr
  | 0 => A.n0
  | 1 => A.n1
  | 2 => A.n2
  | 3 => A.n3
  | 4 => A.n4
  | _ => A.n5
theorem norm_at (T : Txt K mg A) (f : Nat) (hf : f < 6) (H : Hp) : TupV K H (nAd A f) (Kg83.way f) := by
  match f, hf with
  | 0, _ => exact T.t_n0 H
  | 1, _ => exact T.t_n1 H
  | 2, _ => exact T.t_n2 H
  | 3, _ => exact T.t_n3 H
  | 4, _ => exact T.t_n4 H
  | 5, _ => exact T.t_n5 H
theorem norm_ix (A : Ads) (f : Nat) (hf : f < 6) : atI [V.ref A.n0, .ref A.n1, .ref A.n2, .ref A.n3, .ref A.n4, .ref A.n5] (f : Int) = some (.ref (nAd A f)) := by
  match f, hf with
  | 0, _ => rfl
  | 1, _ => rfl
  | 2, _ => rfl
  | 3, _ => rfl
  | 4, _ => rfl
  | 5, _ => rfl
/-! the stickers -/
def StOk (A : Ads) (H : Hp) (x : V) (k : Nat) : Prop := ∃ t q : Addr, x = .ref t ∧ H t = some (.tup [.ref q, .ref (nAd A (k / 9))]) ∧ H q = some (.tup ((v3 (spotK k).at_).map V.int))
def StsL (A : Ads) (H : Hp) (xs : List V) (n : Nat) : Prop := xs.length = n ∧ ∀ (k : Nat) x, xs[k]? = some x → StOk A H x k
def Sts (A : Ads) (H : Hp) (L : Addr) (n : Nat) : Prop := ∃ xs : List V, H L = some (.lst xs) ∧ StsL A H xs n
theorem StOk.keep {H H' : Hp} {x : V} {k : Nat} (h : StOk A H x k) (e : ∀ b xs, H b = some (.tup xs) → H' b = some (.tup xs)) : StOk A H' x k := by
  obtain ⟨t, q, rfl, h1, h2⟩ := h
  exact ⟨t, q, rfl, e _ _ h1, e _ _ h2⟩
theorem StsL.keep {H H' : Hp} {xs : List V} {n : Nat} (h : StsL A H xs n) (e : ∀ b xs, H b = some (.tup xs) → H' b = some (.tup xs)) : StsL A H' xs n :=
  ⟨h.1, fun k x hx => (h.2 k x hx).keep e⟩
theorem Sts.same {H H' : Hp} {L : Addr} {n : Nat} (h : Sts A H L n) (e : Same H H') : Sts A H' L n := by
  obtain ⟨xs, h1, h2⟩ := h
  exact ⟨xs, e _ _ h1, h2.keep fun b ys q => e _ _ q⟩
theorem Sts.push {H : Hp} {L q t : Addr} {n : Nat} {xs : List V} (hL : H L = some (.lst xs)) (h : StsL A H xs n) (hq : H q = none) (ht : upd H q (.tup ((v3 (spotK n).at_).map V.int)) t = none) :
    Sts A (upd (upd (upd H q (.tup ((v3 (spotK n).at_).map V.int))) t (.tup [.ref q, .ref (nAd A (n / 9))])) L (.lst (xs ++ [.ref t]))) L (n + 1) := by
  have e1 : Same H (upd H q (.tup ((v3 (spotK n).at_).map V.int))) := Same.new hq
  have e2 : Same H (upd (upd H q (.tup ((v3 (spotK n).at_).map V.int))) t (.tup [.ref q, .ref (nAd A (n / 9))])) := e1.trans (Same.new ht)
  have nL : ∀ b ys, H b = some (.tup ys) → b ≠ L := fun b ys z => ne_of z hL (by intro z; cases z)
  have tL : t ≠ L := fun z => by
    rw [z, e1 _ _ hL] at ht
    cases ht
  have qL : q ≠ L := fun z => by
    rw [z, hL] at hq
    cases hq
  have qt : q ≠ t := fun z => by
    rw [← z, upd_same] at ht
    cases ht
  refine ⟨_, upd_same, by rw [List.length_append, h.1]; rfl, fun k x hx => ?_⟩
  by_cases hk : k < xs.length
  · rw [List.getElem?_append_left hk] at hx
    exact (h.2 k x hx).keep fun b ys z => by
      rw [upd_ne (nL b ys z)]
      exact e2 _ _ z
  · rw [List.getElem?_append_right (by omega)] at hx
    have hk2 : k = n := by
      cases hz : k - xs.length with
      | zero =>
        have := h.1
        omega
      | succ m =>
        rw [hz] at hx
        simp at hx
    subst hk2
    rw [h.1, Nat.sub_self] at hx
    cases hx
    exact ⟨t, q, rfl, by rw [upd_ne tL, upd_same], by rw [upd_ne qL, upd_ne qt, upd_same]⟩
def spAll (A : Ads) : Sp := fun vs H Q _ => vs = [] ∧ ∀ H' L, Same H H' → Sts A H' L 54 → Q (.ref L) H'
theorem sc_all_stickers : FnScope ["found", "face", "row", "column"] [] (defScope s_all_stickers) := ⟨rfl, rfl, rfl, by decide +kernel, rfl, by decide +kernel, by decide +kernel⟩
theorem ok_all_stickers (T : Txt K mg A) : Has P w K mg base CX0 2 A.all_stickers [] (spAll A) := by
  refine T.f_all_stickers.ok sc_all_stickers (fun vs H Q E h => by rw [h.1]; rfl) (fun cdv Ar outer s H vs Q E hr h => ?_)
  obtain ⟨rfl, k⟩ := h
  have G_place_of := ok_place_of (P := P) (w := w) (base := base) T
  obtain ⟨_, g_FACES⟩ := T.i_FACES
  refine ⟨_, (pss_cons (ps_set (i := 0) sc_all_stickers.nd rfl (Or.inl rfl) (pe_lst pa_nil))
    (pss_cons (ps_for PassesOwn.never rfl (pi_range1 rfl T.b_range (pa_cons (pe_gi rfl g_FACES) pa_nil)) (pg_name (i := 1) sc_all_stickers.nd rfl (Or.inl rfl)) (pss_one (ps_for PassesOwn.never rfl (pi_range1 rfl T.b_range (pa_cons pe_int pa_nil)) (pg_name (i := 2) sc_all_stickers.nd rfl (Or.inl rfl)) (pss_one (ps_for PassesOwn.never rfl (pi_range1 rfl T.b_range (pa_cons pe_int pa_nil)) (pg_name (i := 3) sc_all_stickers.nd rfl (Or.inl rfl)) (pss_one (ps_expr (pe_bm PySem.F.plainAttrs_list PySem.F.slot_list_append PySem.F.type_list_append mt_append (pv 0) (pa_cons (pe_tup (pa_cons (pe_c G_place_of (hr.mono (by decide)) rfl T.g_place_of pass0 (pa_cons (pv 1) (pa_cons (pv 2) (pa_cons (pv 3) pa_nil)))) (pa_cons (pe_ix ix_tup (pe_gr rfl T.g_NORMALS) (pv 1) (fun _ _ => rfl)) pa_nil))) pa_nil)))))))))
    (pss_one (ps_ret (pv 0))))), ?_⟩
  refine ⟨(by show 0 ≤ sizeLine; decide), fun L hL => ?_⟩
  have sL : Same H (upd H L (.lst [])) := Same.new hL
  refine ⟨6, rfl, (by decide), (by decide), for_rng0 (n := 6) (fun i σ H' => ∃ a b c, σ = [some (.ref L), a, b, c] ∧ Same H H' ∧ Sts A H' L (9 * i)) ⟨_, _, _, rfl, sL, [], upd_same, rfl, fun k x hx => by simp at hx⟩ ?_ ?_⟩
  · rintro f σ H1 hf ⟨a, b, c, rfl, s1, S1⟩
    refine ⟨3, rfl, (by decide), (by decide), for_rng0 (n := 3) (fun i σ H' => ∃ b c, σ = [some (.ref L), some (.int (f : Int)), b, c] ∧ Same H H' ∧ Sts A H' L (9 * f + 3 * i)) ⟨_, _, rfl, s1, S1⟩ ?_ ?_⟩
    · rintro r σ H2 hr2 ⟨b, c, rfl, s2, S2⟩
      refine ⟨3, rfl, (by decide), (by decide), for_rng0 (n := 3) (fun i σ H' => ∃ c, σ = [some (.ref L), some (.int (f : Int)), some (.int (r : Int)), c] ∧ Same H H' ∧ Sts A H' L (9 * f + 3 * r + i)) ⟨_, rfl, s2, S2⟩ ?_ ?_⟩
      · rintro d σ H3 hd ⟨c, rfl, s3, xs, hx, hS⟩
        have en : spotK (9 * f + 3 * r + d) = Kg83.spot f r d := by
          unfold spotK
          rw [show (9 * f + 3 * r + d) / 9 = f by omega, show (9 * f + 3 * r + d) % 9 / 3 = r by omega, show (9 * f + 3 * r + d) % 3 = d by omega]
        have ef : (9 * f + 3 * r + d) / 9 = f := by omega
        refine ⟨_, rfl, .inl ⟨rfl, _, SqL.of hx⟩, _, rfl, _, rfl, _, rfl, f, r, d, rfl, hf, fun q hq => ?_⟩
        refine ⟨_, rfl, A.tNORMALS, _, _, _, rfl, rfl, T.t_NORMALS _, norm_ix A f hf, (by show 2 ≤ sizeLine; decide), fun t ht => ?_⟩
        have hL3 : (upd (upd H3 q (.tup ((v3 (Kg83.spot f r d).at_).map V.int))) t (.tup [.ref q, .ref (nAd A f)])) L = some (.lst xs) := (Same.new ht) _ _ ((Same.new hq) _ _ hx)
        refine ⟨L, xs, .ref t, rfl, rfl, hL3, ?_, ?_⟩
        · have := hS.1
          rw [sizeLine_eq]
          omega
        · refine ⟨_, rfl, ?_, ?_⟩
          · intro b o e
            by_cases hb : b = L
            · exact absurd (s3 b o e) (by
                rw [hb]
                intro z
                rw [hb, hL] at e
                cases e)
            · rw [upd_ne hb]
              exact (Same.new ht) _ _ ((Same.new hq) _ _ (s3 b o e))
          · have z := Sts.push (A := A) (n := 9 * f + 3 * r + d) hx hS hq (t := t) (by rw [en]; exact ht)
            rw [en, ef] at z
            exact z
      · rintro σ H3 ⟨c, rfl, s3, S3⟩
        exact ⟨_, _, rfl, s3, by rw [show 9 * f + 3 * (r + 1) = 9 * f + 3 * r + 3 by omega]; exact S3⟩
    · rintro σ H2 ⟨b, c, rfl, s2, S2⟩
      exact ⟨_, _, _, rfl, s2, by rw [show 9 * (f + 1) = 9 * f + 3 * 3 by omega]; exact S2⟩
  · rintro σ H1 ⟨a, b, c, rfl, s1, S1⟩
    exact ⟨_, rfl, k _ _ s1 S1⟩
end
end Cm
namespace Cm
open PySem PySem.Spec PyProof.Rows L2
theorem hu65 {k : Nat} {A : Around} (hr : Room k A) : A.units + 65 < cLine := by
  have := hr.un
  omega
instance : DecidablePred Sm := fun v => by
  unfold Sm
  infer_instance
theorem sm_at : ∀ k < 54, Sm (spotK k).at_ := by decide +kernel
theorem sm_way : ∀ f < 6, Sm (Kg83.way f) := by decide +kernel
theorem out_way (k : Nat) : (spotK k).out = Kg83.way (k / 9) := rfl
/-! stickers as data -/
def d3 (v : Kg83.V) : PyData := .tuple ((v3 v).map PyData.int)
def stD (s : Kg83.Spot) : PyData := .tuple [d3 s.at_, d3 s.out]
theorem d3_eqv (u v : Kg83.V) : PyData.eqv (d3 u) (d3 v) = decide (u = v) := by
  obtain ⟨a, b, c⟩ := u
  obtain ⟨a', b', c'⟩ := v
  have e : PyData.eqv (d3 ⟨a, b, c⟩) (d3 ⟨a', b', c'⟩) = ((a == a') && ((b == b') && ((c == c') && true))) := by simp only [d3, v3, List.map, PyData.eqv, PyData.eqvAll]
  rw [e, Bool.eq_iff_iff]
  simp
theorem stD_eqv (s t : Kg83.Spot) : PyData.eqv (stD s) (stD t) = decide (s = t) := by
  obtain ⟨a, b⟩ := s
  obtain ⟨a', b'⟩ := t
  have e : PyData.eqv (stD ⟨a, b⟩) (stD ⟨a', b'⟩) = (PyData.eqv (d3 a) (d3 a') && (PyData.eqv (d3 b) (d3 b') && true)) := by simp only [stD, PyData.eqv, PyData.eqvAll]
  rw [e, d3_eqv, d3_eqv, Bool.eq_iff_iff]
  simp
theorem stD_lay (s : Kg83.Spot) : (stD s).canLay0 = true := by simp [stD, d3, v3, PyData.canLay0, PyData.canLayAll0]
theorem stD_depth (s : Kg83.Spot) : (stD s).depth = 2 := by simp [stD, d3, v3, PyData.depth, PyData.depthAll]
theorem stDs_lay : ∀ zs : List Kg83.Spot, PyData.canLayAll0 (zs.map stD) = true
  | [] => by simp [PyData.canLayAll0]
  | z :: zs => by
    show PyData.canLayAll0 (stD z :: zs.map stD) = true
    simp only [PyData.canLayAll0, stD_lay z, stDs_lay zs, Bool.and_self]
theorem stDs_depth : ∀ zs : List Kg83.Spot, PyData.depthAll (zs.map stD) ≤ 2
  | [] => by simp [PyData.depthAll]
  | z :: zs => by
    have h := stDs_depth zs
    have h2 := stD_depth z
    show PyData.depthAll (stD z :: zs.map stD) ≤ 2
    simp only [PyData.depthAll]
    omega
theorem stD_shaped (s : Kg83.Spot) : SeqAt.shaped (stD s) = true := by
  show ((stD s).canLay0 && decide ((stD s).depth ≤ 64)) = true
  rw [stD_lay, stD_depth]
  rfl
theorem stDs_shaped (zs : List Kg83.Spot) : SeqAt.shaped (.list (zs.map stD)) = true := by
  have h1 := stDs_depth zs
  have h2 : PyData.depth (.list (zs.map stD)) ≤ 64 := by
    simp only [PyData.depth]
    omega
  show (PyData.canLay0 (.list (zs.map stD)) && decide (PyData.depth (.list (zs.map stD)) ≤ 64)) = true
  rw [decide_eq_true h2, Bool.and_true]
  simp only [PyData.canLay0]
  exact stDs_lay zs
def spotsK : List Kg83.Spot := (List.range 54).map spotK
theorem dp_ints {K : PySem.W.Frag} {H : Hp} : ∀ ns : List Int, DpAll K H (ns.map V.int) (ns.map PyData.int)
  | [] => .nil
  | n :: r => .cons (.int n) (dp_ints r)
theorem dp_tupV {K : PySem.W.Frag} {H : Hp} {a : Addr} {v : Kg83.V} (h : TupV K H a v) : Dp K H (.ref a) (d3 v) := .tup h (dp_ints _)
theorem dpAll_of {K : PySem.W.Frag} {H : Hp} {f : Nat → PyData} : ∀ (xs : List V) (i : Nat), (∀ (k : Nat) x, xs[k]? = some x → Dp K H x (f (i + k))) → DpAll K H xs ((List.range' i xs.length).map f)
  | [], _, _ => .nil
  | x :: xs, i, h => by
    have e : List.range' i (x :: xs).length = i :: List.range' (i + 1) xs.length := rfl
    rw [e]
    exact .cons (h 0 x rfl) (dpAll_of xs (i + 1) fun k y hy => by
      have q := h (k + 1) y (by simpa using hy)
      rw [show i + (k + 1) = i + 1 + k by omega] at q
      exact q)
theorem ixN_nat {n j : Nat} (h : j < n) : ixN n (j : Int) = some j := by
  unfold ixN
  rw [if_pos (by omega), if_pos (by omega)]
  rfl
theorem idx_is {s : Kg83.Spot} (h : idx s < 54) : spotK (idx s) = s := by
  have q := List.findIdx_getElem (p := fun k => spotK k == s) (xs := List.range 54) (w := by simpa [idx] using h)
  rw [List.getElem_range] at q
  exact eq_of_beq q
theorem idx_no {s : Kg83.Spot} {m : Nat} (h : m < idx s) (h2 : m < 54) : spotK m ≠ s := by
  have q := List.not_of_lt_findIdx (p := fun k => spotK k == s) (xs := List.range 54) (show m < List.findIdx _ _ from h)
  rw [List.getElem_range] at q
  exact fun z => by simp [z] at q
section
variable {P : Program} {w : World} {K : PySem.W.Frag} {mg : Str → Option Value} {base : Heap} {A : Ads}
theorem StOk.dp (T : Txt K mg A) {H : Hp} {x : V} {k : Nat} (hk : k < 54) (h : StOk A H x k) : Dp K H x (stD (spotK k)) := by
  obtain ⟨t, q, rfl, h1, h2⟩ := h
  exact .tup (SqT.of h1) (.cons (dp_tupV (SqT.of h2)) (.cons (dp_tupV (norm_at T (k / 9) (by omega) H)) .nil))
theorem StsL.dp (T : Txt K mg A) {H : Hp} {xs : List V} (h : StsL A H xs 54) : DpAll K H xs (spotsK.map stD) := by
  have q := dpAll_of (K := K) (H := H) (f := fun k => stD (spotK k)) xs 0 fun k x hx => by
    have hk : k < 54 := by
      have := (List.getElem?_eq_some_iff.mp hx).1
      have := h.1
      omega
    rw [Nat.zero_add]
    exact (h.2 k x hx).dp T hk
  rw [h.1] at q
  have e : spotsK.map stD = (List.range' 0 54).map fun k => stD (spotK k) := by
    unfold spotsK
    rw [List.map_map, List.range_eq_range']
    rfl
  rw [e]
  exact q
abbrev nI (k : Nat) : V := .int (k : Int)
def spSrc (A : Ads) : Sp := fun vs H Q _ => ∃ (L : Addr) (f : Nat), vs = [.ref L, .ref (nAd A f)] ∧ f < 6 ∧ Sts A H L 54 ∧ ∀ H' p, Same H H' → H p = none → H' p = some (.lst ((rowT f).map nI)) → Q (.ref p) H'
theorem sc_sources : FnScope ["stickers", "normal", "found", "number", "place", "way"] ["stickers", "normal"] (defScope s_sources) := ⟨rfl, rfl, rfl, by decide +kernel, rfl, by decide +kernel, by decide +kernel⟩
theorem ok_sources (T : Txt K mg A) : Has P w K mg base CX0 3 A.sources ["stickers", "normal"] (spSrc A) := by
  refine T.f_sources.ok sc_sources (fun vs H Q E h => ?_) (fun cdv Ar outer s H vs Q E hr h => ?_)
  · obtain ⟨_, _, rfl, _⟩ := h
    rfl
  obtain ⟨L, f, rfl, hf, ⟨xs, hL, hS⟩, k⟩ := h
  have G_inner := ok_inner (P := P) (w := w) (base := base) T
  have G_turned := ok_turned (P := P) (w := w) (base := base) T
  obtain ⟨_, g_STICKERS⟩ := T.i_STICKERS
  refine ⟨_, (pss_cons (ps_set (i := 2) sc_sources.nd rfl (Or.inl rfl) (pe_listRg rfl (by rfl) T.b_list (prg_1 (by rfl) T.b_range (pe_gi rfl g_STICKERS))))
    (pss_cons (ps_for PassesOwn.never rfl (pi_enum (by rfl) T.b_enumerate (pa_cons (pv 0) pa_nil)) (pg_tup rfl (pgs_cons (pg_name (i := 3) sc_sources.nd rfl (Or.inl rfl)) (pgs_cons (pg_tup rfl (pgs_cons (pg_name (i := 4) sc_sources.nd rfl (Or.inl rfl)) (pgs_cons (pg_name (i := 5) sc_sources.nd rfl (Or.inl rfl)) pgs_nil))) pgs_nil))) (pss_one (ps_if (pt_cmpR op_eq (pe_c G_inner (hr.mono (by decide)) rfl T.g_inner pass0 (pa_cons (pv 4) (pa_cons (pv 1) pa_nil))) pe_int (nomark _)) (pss_one (ps_asg (pv 3) (pg_sub (pv 2) (pe_bm PySem.F.plainAttrs_list PySem.F.slot_list_index PySem.F.type_list_index (mt_indexD (hu65 hr)) (pv 0) (pa_cons (pe_tup (pa_cons (pe_c G_turned (hr.mono (by decide)) rfl T.g_turned pass0 (pa_cons (pv 4) (pa_cons (pv 1) pa_nil))) (pa_cons (pe_c G_turned (hr.mono (by decide)) rfl T.g_turned pass0 (pa_cons (pv 5) (pa_cons (pv 1) pa_nil))) pa_nil))) pa_nil)) set_list))) pss_nil)))
    (pss_one (ps_ret (pv 2))))), ?_⟩
  refine ⟨54, rfl, RgOk.of_le (by decide) (by decide) (by decide) (by decide), fun F hF => ?_⟩
  have e0 : rgV 0 54 = (pyRow f 0).map nI := by
    show rgV 0 54 = (List.range 54).map nI
    decide +kernel
  refine ⟨_, rfl, L, xs, rfl, SqL.of ((Same.new hF) _ _ hL), for_it (walk_enum (K := K) (a := L) (xs := xs)) (fun i σ H' => ∃ a b c, σ = [some (.ref L), some (.ref (nAd A f)), some (.ref F), a, b, c] ∧ Same H H' ∧ H' F = some (.lst ((pyRow f i).map nI)))
    ⟨_, _, _, rfl, Same.new hF, by rw [← e0]; exact upd_same⟩ (fun i σ H' _ ⟨_, _, _, _, s1, _⟩ => SqL.of (s1 _ _ hL)) ?_ ?_⟩
  · rintro i v σ H1 H2 hi ⟨a, b, c, rfl, s1, hF1⟩ ⟨t, x, y, rfl, ht, rfl, ex, ey⟩
    cases ex
    have hi54 : i < 54 := by
      have := hS.1
      omega
    obtain ⟨p, q, rfl, h1, h2⟩ := (hS.2 i y ey).keep fun b ys z => s1 _ _ z
    have s2 : Same H1 (upd H1 t (.tup [.int (i : Nat), .ref p])) := Same.new ht
    have tu : TupV K (upd H1 t (.tup [.int (i : Nat), .ref p])) q (spotK i).at_ := SqT.of (s2 _ _ h2)
    have tw : TupV K (upd H1 t (.tup [.int (i : Nat), .ref p])) (nAd A (i / 9)) (spotK i).out := norm_at T (i / 9) (by omega) _
    have tn : ∀ H', TupV K H' (nAd A f) (Kg83.way f) := fun H' => norm_at T f hf H'
    refine ⟨t, _, rfl, SqT.of upd_same, rfl, _, _, rfl, _, _, rfl, ⟨p, _, rfl, SqT.of (s2 _ _ h1), rfl, _, _, rfl, _, _, rfl, rfl, rfl, ?_⟩⟩
    refine ⟨_, rfl, _, rfl, q, nAd A f, (spotK i).at_, Kg83.way f, rfl, tu, tn _, sm_at i hi54, rfl, _, rfl, ?_⟩
    by_cases hd : Kg83.dot (spotK i).at_ (Kg83.way f) = 1
    · refine dT (by rw [hd]) ?_
      refine ⟨_, rfl, _, rfl, _, rfl, .inl ⟨rfl, _, SqL.of (s2 _ _ (s1 _ _ hL))⟩, ?_⟩
      refine ⟨_, rfl, _, rfl, q, nAd A f, _, _, rfl, tu, tn _, sm_at i hi54, sm_way f hf, fun p1 n1 => ?_⟩
      refine ⟨_, rfl, _, rfl, nAd A (i / 9), nAd A f, (spotK i).out, _, rfl, norm_at T (i / 9) (by omega) _, tn _, sm_way (i / 9) (by omega), sm_way f hf, fun p2 n2 => ?_⟩
      refine ⟨(by show 2 ≤ sizeLine; decide), fun p3 n3 => ?_⟩
      have s3 := (Same.new (o := .tup ((v3 (pyTurn (spotK i).at_ (Kg83.way f))).map V.int)) n1)
      have s4 := (Same.new (o := .tup ((v3 (pyTurn (spotK i).out (Kg83.way f))).map V.int)) n2)
      have s5 := (Same.new (o := .tup [.ref p1, .ref p2]) n3)
      have sA := (s2.trans s3).trans (s4.trans s5)
      have hj := idx_lt f hf i hi54 hd
      refine ⟨L, .ref p3, stD (pyGoes f i), spotsK.map stD, idx (pyGoes f i), stD (spotK (idx (pyGoes f i))), rfl, rfl, .lst (SqL.of (sA _ _ (s1 _ _ hL))) ((hS.keep fun b ys z => sA _ _ (s1 _ _ z)).dp T), ?_, stDs_shaped _, stD_shaped _, ?_, ?_, ?_, ?_⟩
      · exact .tup (SqT.of upd_same) (.cons (dp_tupV (SqT.of (s5 _ _ (s4 _ _ upd_same)))) (.cons (dp_tupV (SqT.of (s5 _ _ upd_same))) .nil))
      · unfold spotsK
        rw [List.map_map, List.getElem?_map, List.getElem?_range hj]
        rfl
      · rw [stD_eqv, decide_eq_true (idx_is hj)]
      · intro m z' hm hz
        unfold spotsK at hz
        rw [List.map_map, List.getElem?_map, List.getElem?_range (by omega)] at hz
        cases hz
        rw [show (stD ∘ spotK) m = stD (spotK m) from rfl, stD_eqv, decide_eq_false (idx_no hm (by omega))]
      · have hF5 := sA _ _ hF1
        refine ⟨F, _, _, idx (pyGoes f i), rfl, rfl, hF5, ixN_nat (by rw [List.length_map, pyRow_length]; exact hj), ?_⟩
        refine ⟨_, _, _, rfl, fun b o e => ?_, ?_⟩
        · rw [upd_ne (ne_of_none e hF)]
          exact sA _ _ (s1 _ _ e)
        · rw [upd_same, pyRow_succ]
          unfold rowStep
          rw [if_pos hd, List.map_set]
    · refine dF (fun z => hd (by injection z)) ?_
      refine ⟨_, _, _, rfl, s1.trans s2, ?_⟩
      rw [s2 _ _ hF1, pyRow_succ]
      unfold rowStep
      rw [if_neg hd]
  · rintro σ H1 ⟨a, b, c, rfl, s1, hF1⟩
    refine ⟨_, rfl, k _ F s1 hF ?_⟩
    rw [hF1, hS.1]
    rfl
end
end Cm
namespace Cm
open PySem PySem.Spec PyProof.Rows L2
/-! len(set(xs)), any ints -/
abbrev met (ns : List Int) : List Int := PyProof.Rows.firstMet (fun i => ns.getD i 0) ns.length
def tLenSet (K : PySem.W.Frag) (ta : TE) : TE := fun σ H Q => ta σ H fun x H1 => ∃ (l : Addr) (ns : List Int), x = .ref l ∧ SqL K H1 l (ns.map V.int) ∧ ns.length ≤ 1000 ∧ Q (.int ((met ns).length : Nat)) H1
theorem pe_lenSet {X : Cx} {e : Expr} {te : TE} {p1 p2 p3 p4 : Pos} (gl : Gl X "len") (ml : X.mg "len" = none) (gs : Gl X "set") (ms : X.mg "set" = none) (he : PE X e te) (calm : X.calm = true := by rfl) (one : starEach [e] X.env = (false, eval e X.env) :: starEach [] X.env := by rfl) :
    PE X (.Call (.Name "len" p1) [.Call (.Name "set" p2) [e] [] p3] [] p4) (tLenSet X.K te) := by
  constructor
  intro pins s σ H Q I h
  refine Call_ (ld_blt I gl ml PySem.boot_len (callWith_builtin1 (args_cons (Call_ (ld_blt I gs ms boot_set (callWith_type1 (args_cons (thn (he.run pins s σ H _ I h) fun v s1 ⟨x, H1, J, rel, l, ns, ex, sq, small, fin⟩ => args_nil ?_) one) one rfl))) rfl) rfl rfl))
  subst ex
  cases rel
  obtain ⟨its, items, plain, _⟩ := J.list sq
  have many : its.toArray.size = ns.length := List.size_toArray.trans (items.length.symm.trans (List.length_map _))
  refine call_set_list (J.ok.hd calm) plain.isList (ns := ns) (by simpa using items.ints) (by rw [many]; unfold scanBound; omega) fun hp tk set kept => args_nil ?_
  rw [many] at set
  obtain ⟨_, _, _, _, s1, s2, s3, _, _, _, s4, count⟩ := set
  have few := firstMet_length_le (fun i => ns.getD i 0) ns.length
  exact call_len_set s1 s2 s3 s4 (by rw [count]; omega) ⟨.int _, H1, (J.kept (t' := tk) fun y o g => kept y o (Heap.lt_size g) g).tok _, ⟨_, by rw [count]⟩, fin⟩
theorem met_one {ns : List Int} {a : Int} (h : ∀ x ∈ ns, x = a) : (met ns).length ≤ 1 := by
  have key : ∀ i, i ≤ ns.length → PyProof.Rows.firstMet (fun i => ns.getD i 0) i = [] ∨ PyProof.Rows.firstMet (fun i => ns.getD i 0) i = [a] := by
    intro i
    induction i with
    | zero => intro _; exact .inl rfl
    | succ i ih =>
      intro hi
      have e : ns.getD i 0 = a := by
        rw [List.getD_eq_getElem?_getD, List.getElem?_eq_getElem (by omega)]
        exact h _ (List.getElem_mem _)
      rw [PyProof.Rows.firstMet_succ, e]
      rcases ih (by omega) with z | z
      · rw [z]
        exact .inr rfl
      · rw [z]
        refine .inr ?_
        unfold step_dedup
        rw [if_pos (by simp)]
  rcases key ns.length (Nat.le_refl _) with z | z
  · show (PyProof.Rows.firstMet (fun i => ns.getD i 0) ns.length).length ≤ 1
    rw [z]
    exact Nat.zero_le 1
  · show (PyProof.Rows.firstMet (fun i => ns.getD i 0) ns.length).length ≤ 1
    rw [z]
    exact Nat.le_refl 1
theorem met_mem {ns : List Int} : ∀ (i : Nat), i ≤ ns.length → ∀ (j : Nat), j < i → ns.getD j 0 ∈ PyProof.Rows.firstMet (fun i => ns.getD i 0) i
  | 0, _, j, hj => absurd hj (by omega)
  | i + 1, hi, j, hj => by
    rw [PyProof.Rows.firstMet_succ]
    unfold step_dedup
    by_cases hji : j < i
    · have q := met_mem (ns := ns) i (by omega) j hji
      split
      · exact q
      · exact List.mem_append_left _ q
    · have e : j = i := by omega
      subst e
      split
      · rename_i h
        obtain ⟨y, hy, e⟩ := List.any_eq_true.mp h
        rw [← eq_of_beq e]
        exact hy
      · simp
theorem met_all {ns : List Int} (h : (met ns).length ≤ 1) {x y : Int} (hx : x ∈ ns) (hy : y ∈ ns) : x = y := by
  have mem : ∀ x ∈ ns, x ∈ met ns := fun x hx => by
    obtain ⟨j, hj, e⟩ := List.getElem_of_mem hx
    have q := met_mem (ns := ns) ns.length (Nat.le_refl _) j hj
    rw [List.getD_eq_getElem?_getD, List.getElem?_eq_getElem hj] at q
    rw [← e]
    exact q
  have h1 := mem x hx
  have h2 := mem y hy
  generalize met ns = l at h h1 h2
  match l, h, h1, h2 with
  | [], _, h1, _ => simp at h1
  | [a], _, h1, h2 =>
    simp at h1 h2
    rw [h1, h2]
  | _ :: _ :: _, h, _, _ => simp at h
section
variable {P : Program} {w : World} {K : PySem.W.Frag} {mg : Str → Option Value} {base : Heap} {A : Ads}
/-! Turns -/
def TurnsAt (A : Ads) (H : Hp) (p : Addr) : Prop := ∃ (dx R : Addr) (rs : List Addr), H p = some (.ins A.CTurns dx [("rows", .ref R)]) ∧ H R = some (.lst (rs.map V.ref)) ∧ rs.length = 6 ∧ ∀ (f : Nat) r, rs[f]? = some r → H r = some (.lst ((rowT f).map nI))
theorem TurnsAt.same {H H' : Hp} {p : Addr} (h : TurnsAt A H p) (e : Same H H') : TurnsAt A H' p := by
  obtain ⟨dx, R, rs, h1, h2, h3, h4⟩ := h
  exact ⟨dx, R, rs, e _ _ h1, e _ _ h2, h3, fun f r hr => e _ _ (h4 f r hr)⟩
def spTurnsI (A : Ads) : Sp := fun vs H Q _ => ∃ p dx, vs = [.ref p] ∧ H p = some (.ins A.CTurns dx []) ∧ ∀ H', (∀ b o, H b = some o → b ≠ p → H' b = some o) → TurnsAt A H' p → Q .non H'
theorem sc_Turns_init : FnScope ["self", "stickers", "normal"] ["self"] (defScope s_Turns_init) := ⟨rfl, rfl, rfl, by decide +kernel, rfl, by decide +kernel, by decide +kernel⟩
theorem ok_Turns_init (T : Txt K mg A) : Has P w K mg base CX0 4 A.Turns_init ["self"] (spTurnsI A) := by
  refine T.f_Turns_init.ok sc_Turns_init (fun vs H Q E h => ?_) (fun cdv Ar outer s H vs Q E hr h => ?_)
  · obtain ⟨_, _, rfl, _⟩ := h
    rfl
  obtain ⟨p, dx, rfl, hp, k⟩ := h
  have G_all_stickers := ok_all_stickers (P := P) (w := w) (base := base) T
  have G_sources := ok_sources (P := P) (w := w) (base := base) T
  refine ⟨_, (pss_cons (ps_set (i := 1) sc_Turns_init.nd rfl (Or.inr rfl) (pe_c0 G_all_stickers (hr.mono (by decide)) rfl T.g_all_stickers pass0))
    (pss_one (ps_fld (pv 0) (pe_lc (own := [("normal", 2)]) (g := gName 2) (tt := tYes) rfl sc_Turns_init.nd (pi_tup (pe_gr rfl T.g_NORMALS)) (blkOk_by (N := ["self", "stickers", "normal"]) (sc := defScope s_Turns_init) (by decide +kernel)) (fun _ _ _ _ _ => (pg_name (i := 2) sc_Turns_init.nd rfl (Or.inl rfl))) (fun _ _ _ _ _ => pts_nil) (fun _ _ _ _ _ => (pe_c G_sources (hr.mono (by decide)) rfl T.g_sources pass0 (pa_cons (pv 1) (pa_cons (pv 2) pa_nil))))) rfl))), ?_⟩
  refine ⟨rfl, fun H1 L s1 S1 => ?_⟩
  refine ⟨A.tNORMALS, rfl, ⟨_, T.t_NORMALS _⟩, fun D nD => lc_tup (K := K) (a := A.tNORMALS) (xs := [.ref A.n0, .ref A.n1, .ref A.n2, .ref A.n3, .ref A.n4, .ref A.n5])
    (fun i H' => Same H1 H' ∧ ∃ rs : List Addr, H' D = some (.lst (rs.map V.ref)) ∧ rs.length = i ∧ ∀ (f : Nat) r, rs[f]? = some r → H' r = some (.lst ((rowT f).map nI)))
    ⟨Same.new nD, [], upd_same, rfl, fun f r hr => by simp at hr⟩ (fun _ _ _ _ => T.t_NORMALS _) ?_ ?_⟩
  · rintro i x H2 hx ⟨s2, rs, hD, hl, hrs⟩
    have hi : i < 6 := (List.getElem?_eq_some_iff.mp hx).1
    have ex : x = .ref (nAd A i) := by
      have q := norm_ix A i hi
      unfold atI at q
      rw [ixN_nat (by exact hi)] at q
      exact Option.some.inj (hx.symm.trans q)
    subst ex
    refine ⟨rfl, ?_⟩
    refine ⟨_, rfl, _, rfl, L, i, rfl, hi, S1.same s2, fun H3 r s3 nr hr3 => ?_⟩
    have hD3 := s3 _ _ hD
    have rD : ∀ b o, H3 b = some o → b ≠ D → upd H3 D (.lst (rs.map V.ref ++ [.ref r])) b = some o := fun b o e hb => by
      rw [upd_ne hb]
      exact e
    have rneD : r ≠ D := fun z => by
      rw [z, hD] at nr
      cases nr
    refine ⟨_, hD3, by rw [List.length_map, hl, sizeLine_eq]; omega, fun b o e => rD b o (s3 _ _ (s2 _ _ e)) (ne_of_none e nD), rs ++ [r], by rw [List.map_append]; exact upd_same, by rw [List.length_append, hl]; rfl, fun f q hq => ?_⟩
    by_cases hf : f < rs.length
    · rw [List.getElem?_append_left hf] at hq
      have z := hrs f q hq
      refine rD _ _ (s3 _ _ z) fun e => ?_
      rw [e, hD] at z
      injection z with z
      injection z with z
      cases rs with
      | nil => simp at hf
      | cons a rs =>
        have z2 : V.ref a :: rs.map V.ref = (rowT f).map nI := z
        cases e2 : rowT f with
        | nil => rw [e2] at z2; cases z2
        | cons c cs => rw [e2] at z2; injection z2 with z3; cases z3
    · rw [List.getElem?_append_right (by omega)] at hq
      have e : f = i := by
        cases hz : f - rs.length with
        | zero => omega
        | succ m => rw [hz] at hq; simp at hq
      subst e
      rw [hl, Nat.sub_self] at hq
      cases hq
      exact rD _ _ hr3 rneD
  · rintro H2 ⟨s2, rs, hD, hl, hrs⟩
    have hp2 := s2 _ _ (s1 _ _ hp)
    refine ⟨_, rfl, p, A.CTurns, dx, [], rfl, hp2, T.c_Turns, T.n_Turns_rows, (by show 0 < 1000; decide), ?_⟩
    have keep : ∀ b o, H2 b = some o → b ≠ p → upd H2 p (.ins A.CTurns dx [("rows", .ref D)]) b = some o := fun b o e hb => by
      rw [upd_ne hb]
      exact e
    have lp : ∀ b xs, H2 b = some (.lst xs) → b ≠ p := fun b xs z => ne_of z hp2 (by intro z; cases z)
    refine k _ (fun b o e hb => keep b o (s2 _ _ (s1 _ _ e)) hb) ⟨dx, D, rs, upd_same, keep _ _ hD (lp _ _ hD), hl, fun f r hr => keep _ _ (hrs f r hr) (lp _ _ (hrs f r hr))⟩
/-! moved -/
def spMoved (K : PySem.W.Frag) (A : Ads) : Sp := fun vs H Q _ => ∃ (p c m : Addr) (cs ms : List Nat), vs = [.ref p, .ref c, .ref m] ∧ TurnsAt A H p ∧ H c = some (.lst (cs.map nI)) ∧ cs.length = 54 ∧ SqL K H m (ms.map nI) ∧ (∀ z ∈ ms, z < 18) ∧
  ∀ H' q, Same H H' → H' q = some (.lst ((Kg83.moves cs ms).map nI)) → Q (.ref q) H'
theorem take_more {α : Type} {l : List α} {i : Nat} {x : α} (h : l[i]? = some x) : l.take (i + 1) = l.take i ++ [x] := by
  rw [List.take_add_one, h]
  rfl
theorem map_at {α : Type} {f : α → V} {l : List α} {i : Nat} {y : V} (h : (l.map f)[i]? = some y) : ∃ z, l[i]? = some z ∧ y = f z := by
  rw [List.getElem?_map] at h
  cases e : l[i]? with
  | none => rw [e] at h; cases h
  | some z =>
    rw [e] at h
    exact ⟨z, rfl, (Option.some.inj h).symm⟩
theorem atI_nI {cs : List Nat} {k : Nat} (h : k < cs.length) : atI (cs.map nI) (k : Int) = some (nI (cs.getD k 0)) := by
  refine atI_nat ?_
  rw [List.getElem?_map, List.getD_eq_getElem?_getD, List.getElem?_eq_getElem h]
  rfl
theorem sc_Turns_moved : FnScope ["self", "colours", "moves", "move", "row", "k", "source"] ["self", "colours", "moves"] (defScope s_Turns_moved) := ⟨rfl, rfl, rfl, by decide +kernel, rfl, by decide +kernel, by decide +kernel⟩
theorem ok_moved (T : Txt K mg A) : Has P w K mg base CX0 1 A.Turns_moved ["self", "colours", "moves"] (spMoved K A) := by
  refine T.f_Turns_moved.ok sc_Turns_moved (fun vs H Q E h => ?_) (fun cdv Ar outer s H vs Q E hr h => ?_)
  · obtain ⟨_, _, _, _, _, rfl, _⟩ := h
    rfl
  obtain ⟨p, c, m, cs, ms, rfl, hT, hc, hl, hm, hms, k⟩ := h
  refine ⟨_, (pss_cons (ps_for PassesOwn.never rfl (pi_list (pv 2)) (pg_name (i := 3) sc_Turns_moved.nd rfl (Or.inl rfl)) (pss_cons (ps_set (i := 4) sc_Turns_moved.nd rfl (Or.inl rfl) (pe_ix ix_list (pe_fld (pv 0) rfl) (pe_op op_fdiv (pv 3) pe_int) (fun _ _ => rfl)))
    (pss_one (ps_for PassesOwn.never rfl (pi_range1 rfl T.b_range (pa_cons (pe_op op_add pe_int (pe_op op_mod (pv 3) pe_int)) pa_nil)) (pg_name (i := 5) sc_Turns_moved.nd rfl (Or.inl rfl)) (pss_one (ps_set (i := 1) sc_Turns_moved.nd rfl (Or.inr rfl) (pe_lc (own := [("source", 6)]) (g := gName 6) (tt := tYes) (te := tOp (rIxL K) (tVar 1) (tVar 6)) rfl sc_Turns_moved.nd (pi_list (pv 4)) (blkOk_by (N := ["self", "colours", "moves", "move", "row", "k", "source"]) (sc := defScope s_Turns_moved) (by decide +kernel)) (fun _ _ _ _ _ => (pg_name (i := 6) sc_Turns_moved.nd rfl (Or.inl rfl))) (fun _ _ _ _ _ => pts_nil) (fun _ _ _ _ _ => (pe_ix ix_list (pv 1) (pv 6) (fun _ _ => rfl))))))))))
    (pss_one (ps_ret (pv 1)))), ?_⟩
  refine ⟨_, rfl, m, rfl, ⟨_, hm⟩, for_list (K := K) (a := m) (xs := ms.map nI) (fun i σ H' => ∃ a b d e q, σ = [some (.ref p), some (.ref q), some (.ref m), a, b, d, e] ∧ Same H H' ∧ H' q = some (.lst ((Kg83.moves cs (ms.take i)).map nI)))
    ⟨_, _, _, _, c, rfl, Same.refl _, hc⟩ (fun i σ H' _ ⟨_, _, _, _, _, _, s1, _⟩ => s1.seq hm) ?_ ?_⟩
  · rintro i y σ H1 hi ⟨a, b, d, e, q, rfl, s1, hq⟩
    obtain ⟨z, hz, rfl⟩ := map_at hi
    have hz18 := hms z (List.mem_of_getElem? hz)
    obtain ⟨dx, R, rs, h1, h2, h3, h4⟩ := hT.same s1
    have hlt : z / 3 < rs.length := by omega
    have hr1 := h4 (z / 3) rs[z / 3] (List.getElem?_eq_getElem hlt)
    refine ⟨_, rfl, p, A.CTurns, dx, _, _, rfl, h1, T.c_Turns, T.n_Turns_rows, rfl, _, rfl, _, _, rfl, rfl, ⟨by decide, by decide⟩, R, _, _, .ref rs[z / 3], rfl, rfl, SqL.of h2, at_of (j := z / 3) (by omega) (by rw [List.getElem?_map, List.getElem?_eq_getElem hlt]; rfl), ?_⟩
    refine ⟨_, rfl, _, _, rfl, rfl, (by show (0 : Int) < 3; decide), _, _, rfl, rfl, ((z % 3 + 1 : Nat) : Int), ?_, by omega, by omega, ?_⟩
    · show [V.int (1 + (z : Int) % 3)] = _
      rw [show (1 : Int) + (z : Int) % 3 = ((z % 3 + 1 : Nat) : Int) by omega]
    have hlm : (Kg83.moves cs (ms.take i)).length = 54 := moves_length _ _ hl
    refine for_rng0 (n := z % 3 + 1) (fun j σ H' => ∃ d e q, σ = [some (.ref p), some (.ref q), some (.ref m), some (nI z), some (.ref rs[z / 3]), d, e] ∧ Same H1 H' ∧ H' q = some (.lst ((Kg83.times_ j (Kg83.turned (z / 3)) (Kg83.moves cs (ms.take i))).map nI)))
      ⟨_, _, q, rfl, Same.refl _, hq⟩ ?_ ?_
    · rintro j σ H2 hj ⟨d, e, q2, rfl, s2, hq2⟩
      have hl2 := times_length (z / 3) j _ hlm
      have rr := s2 _ _ hr1
      refine ⟨_, rfl, rs[z / 3], rfl, ⟨_, SqL.of rr⟩, fun D nD => lc_list (K := K) (a := rs[z / 3]) (xs := (rowT (z / 3)).map nI)
        (fun x H' => Same H2 H' ∧ H' D = some (.lst (((rowT (z / 3)).take x).map fun k => nI ((Kg83.times_ j (Kg83.turned (z / 3)) (Kg83.moves cs (ms.take i))).getD k 0)))) ⟨Same.new nD, upd_same⟩ (fun x H' _ ⟨s3, _⟩ => SqL.of (s3 _ _ rr)) ?_ ?_⟩
      · rintro x y H3 hx ⟨s3, hD⟩
        obtain ⟨v, hv, rfl⟩ := map_at hx
        have hv54 := row_lt (z / 3) (by omega) v (List.mem_of_getElem? hv)
        refine ⟨rfl, _, rfl, _, rfl, q2, _, _, _, rfl, rfl, SqL.of (s3 _ _ hq2), atI_nI (by omega), _, hD, ?_, ?_⟩
        · rw [List.length_map, List.length_take, sizeLine_eq]
          have : (rowT (z / 3)).length = 54 := pyRow_length _ _
          omega
        · refine ⟨fun b o e => ?_, ?_⟩
          · rw [upd_ne (ne_of_none e nD)]
            exact s3 _ _ e
          · rw [upd_same, take_more hv, List.map_append]
            rfl
      · rintro H3 ⟨s3, hD⟩
        refine ⟨_, _, D, rfl, s2.trans s3, ?_⟩
        rw [hD, List.length_map, List.take_length, times_succ, turned_row (by omega) hl2, List.map_map]
        rfl
    · rintro σ H2 ⟨d, e, q2, rfl, s2, hq2⟩
      refine ⟨_, _, _, _, q2, rfl, s1.trans s2, ?_⟩
      rw [hq2, take_more hz, moves_snoc]
      rfl
  · rintro σ H1 ⟨a, b, d, e, q, rfl, s1, hq⟩
    refine ⟨_, rfl, k _ _ s1 ?_⟩
    rw [hq, List.length_map, List.take_length]
/-! solved_cube -/
def spSolved : Sp := fun vs H Q _ => vs = [] ∧ ∀ H' q, Same H H' → H' q = some (.lst (Kg83.solved.map nI)) → Q (.ref q) H'
theorem sc_solved_cube : FnScope ["number"] [] (defScope s_solved_cube) := ⟨rfl, rfl, rfl, by decide +kernel, rfl, by decide +kernel, by decide +kernel⟩
theorem ok_solved_cube (T : Txt K mg A) : Has P w K mg base CX0 1 A.solved_cube [] spSolved := by
  refine T.f_solved_cube.ok sc_solved_cube (fun vs H Q E h => by rw [h.1]; rfl) (fun cdv Ar outer s H vs Q E hr h => ?_)
  obtain ⟨rfl, k⟩ := h
  obtain ⟨_, g_STICKERS⟩ := T.i_STICKERS
  refine ⟨_, (pss_one (ps_ret (pe_lc (own := [("number", 0)]) (g := gName 0) (tt := tYes) rfl sc_solved_cube.nd (pi_range1 rfl T.b_range (pa_cons (pe_gi rfl g_STICKERS) pa_nil)) (blkOk_by (N := ["number"]) (sc := defScope s_solved_cube) (by decide +kernel)) (fun _ _ _ _ _ => (pg_name (i := 0) sc_solved_cube.nd rfl (Or.inl rfl))) (fun _ _ _ _ _ => pts_nil) (fun _ _ _ _ _ => (pe_op op_fdiv (pv 0) pe_int))))), ?_⟩
  refine ⟨54, rfl, (by decide), (by decide), fun D nD => lc_range (lo := 0) (n := 54) (fun i H' => Same H H' ∧ H' D = some (.lst (((List.range i).map fun k => k / 9).map nI))) ⟨Same.new nD, upd_same⟩ ?_ ?_⟩
  · rintro i H1 hi ⟨s1, hD⟩
    refine ⟨rfl, _, rfl, _, _, rfl, rfl, ⟨by decide, by decide⟩, _, hD, by rw [List.length_map, List.length_map, List.length_range, sizeLine_eq]; omega, fun b o e => ?_, ?_⟩
    · rw [upd_ne (ne_of_none e nD)]
      exact s1 _ _ e
    · rw [upd_same, List.range_succ (n := i), List.map_append, List.map_append, Int.zero_add]
      rfl
  · rintro H1 ⟨s1, hD⟩
    exact k _ _ s1 hD
end
end Cm
namespace Cm
open PySem PySem.Spec PyProof.Rows L2
/-! slices -/
theorem cutV_nat (xs : List V) (a b : Nat) : cutV xs (some (a : Int)) (some (b : Int)) = (xs.drop a).take (b - a) := by
  unfold cutV
  rw [HT.sIx_nat, HT.sIx_nat]
  by_cases ha : a ≤ xs.length
  · rw [Nat.min_eq_left ha]
    by_cases hb : b ≤ xs.length
    · rw [Nat.min_eq_left hb]
    · rw [Nat.min_eq_right (by omega), List.take_of_length_le (by rw [List.length_drop]; omega), List.take_of_length_le (by rw [List.length_drop]; omega)]
  · have e1 : xs.drop (min a xs.length) = [] := List.drop_eq_nil_iff.mpr (by omega)
    have e2 : xs.drop a = [] := List.drop_eq_nil_iff.mpr (by omega)
    rw [e1, e2, List.take_nil, List.take_nil]
theorem isSolved_face {cs : List Nat} {f : Nat} (h : (met (((cs.drop (9 * f)).take 9).map fun (k : Nat) => (k : Int))).length ≤ 1) : ((cs.drop (9 * f)).take 9).all (fun x => x == cs.getD (9 * f) 9) = true := by
  rw [List.all_eq_true]
  intro x hx
  have e : ∀ y ∈ (cs.drop (9 * f)).take 9, x = y := fun y hy => by
    have q := met_all h (List.mem_map_of_mem (f := fun (k : Nat) => (k : Int)) hx) (List.mem_map_of_mem (f := fun (k : Nat) => (k : Int)) hy)
    omega
  have hl : 9 * f < cs.length := by
    rcases Nat.lt_or_ge (9 * f) cs.length with z | z
    · exact z
    · rw [List.drop_eq_nil_iff.mpr z] at hx
      simp at hx
  have hm : cs.getD (9 * f) 9 ∈ (cs.drop (9 * f)).take 9 := by
    rw [List.getD_eq_getElem?_getD, List.getElem?_eq_getElem hl, List.drop_eq_getElem_cons hl]
    exact List.mem_cons_self
  exact beq_iff_eq.mpr (e _ hm)
theorem isSolved_face_no {cs : List Nat} {f : Nat} (h : ¬ (met (((cs.drop (9 * f)).take 9).map fun (k : Nat) => (k : Int))).length ≤ 1) : ((cs.drop (9 * f)).take 9).all (fun x => x == cs.getD (9 * f) 9) = false := by
  cases e : ((cs.drop (9 * f)).take 9).all (fun x => x == cs.getD (9 * f) 9) with
  | false => rfl
  | true =>
    refine absurd (met_one (a := ((cs.getD (9 * f) 9 : Nat) : Int)) fun x hx => ?_) h
    obtain ⟨y, hy, rfl⟩ := List.mem_map.mp hx
    rw [eq_of_beq (List.all_eq_true.mp e y hy)]
section
variable {P : Program} {w : World} {K : PySem.W.Frag} {mg : Str → Option Value} {base : Heap} {A : Ads}
def spIsSolved : Sp := fun vs H Q _ => ∃ (c : Addr) (cs : List Nat), vs = [.ref c] ∧ H c = some (.lst (cs.map nI)) ∧ ∀ H', Same H H' → Q (.bl (Kg83.isSolved cs)) H'
theorem sc_is_solved : FnScope ["colours", "face"] ["colours"] (defScope s_is_solved) := ⟨rfl, rfl, rfl, by decide +kernel, rfl, by decide +kernel, by decide +kernel⟩
theorem ok_is_solved (T : Txt K mg A) : Has P w K mg base CX0 1 A.is_solved ["colours"] spIsSolved := by
  refine T.f_is_solved.ok sc_is_solved (fun vs H Q E h => ?_) (fun cdv Ar outer s H vs Q E hr h => ?_)
  · obtain ⟨_, _, rfl, _⟩ := h
    rfl
  obtain ⟨c, cs, rfl, hc, k⟩ := h
  obtain ⟨_, g_FACES⟩ := T.i_FACES
  refine ⟨_, (pss_cons (ps_for PassesOwn.never rfl (pi_range1 rfl T.b_range (pa_cons (pe_gi rfl g_FACES) pa_nil)) (pg_name (i := 1) sc_is_solved.nd rfl (Or.inl rfl)) (pss_one (ps_if (pt_cmpR op_gt (pe_lenSet rfl T.b_len rfl T.b_set (pe_slice sl_list (pv 0) (po_some (pe_op op_mul pe_int (pv 1))) (po_some (pe_op op_add (pe_op op_mul pe_int (pv 1)) pe_int)))) pe_int (nomark _)) (pss_one (ps_ret pe_bl)) pss_nil)))
    (pss_one (ps_ret pe_bl))), ?_⟩
  refine ⟨6, rfl, (by decide), (by decide), for_rng0 (n := 6) (fun i σ H' => ∃ a, σ = [some (.ref c), a] ∧ Same H H' ∧ ∀ f < i, ((cs.drop (9 * f)).take 9).all (fun x => x == cs.getD (9 * f) 9) = true) ⟨_, rfl, Same.refl _, fun f hf => absurd hf (by omega)⟩ ?_ ?_⟩
  · rintro f σ H1 hf ⟨a, rfl, s1, hS⟩
    refine ⟨_, rfl, ?_⟩
    refine ⟨_, rfl, _, _, rfl, rfl, .inl ⟨by decide, by decide⟩, _, rfl, ?_⟩
    refine ⟨_, rfl, _, _, rfl, rfl, .inl ⟨by decide, by decide⟩, _, _, rfl, rfl, _, rfl, ?_⟩
    refine ⟨c, _, rfl, SqL.of (s1 _ _ hc), fun q nq => ?_⟩
    have e : cutV (cs.map nI) (some (9 * (f : Int))) (some (9 * (f : Int) + 9)) = (((cs.drop (9 * f)).take 9).map fun (k : Nat) => (k : Int)).map V.int := by
      have z := cutV_nat (cs.map nI) (9 * f) (9 * f + 9)
      rw [show ((9 * f : Nat) : Int) = 9 * (f : Int) by omega, show ((9 * f + 9 : Nat) : Int) = 9 * (f : Int) + 9 by omega, show 9 * f + 9 - 9 * f = 9 by omega] at z
      rw [z, List.map_map, ← List.map_drop, ← List.map_take]
      rfl
    refine ⟨q, ((cs.drop (9 * f)).take 9).map fun (k : Nat) => (k : Int), rfl, SqL.of (by rw [← e]; exact upd_same), ?_, ?_⟩
    · rw [List.length_map, List.length_take]
      omega
    refine ⟨_, _, rfl, rfl, _, rfl, ?_⟩
    by_cases hm : (met (((cs.drop (9 * f)).take 9).map fun (k : Nat) => (k : Int))).length ≤ 1
    · refine dF (by omega) ?_
      refine ⟨_, rfl, s1.trans (Same.new nq), fun g hg => ?_⟩
      by_cases hgf : g < f
      · exact hS g hgf
      · rw [show g = f by omega]
        exact isSolved_face hm
    · refine dT (by omega) ?_
      have z := isSolved_face_no hm
      have q2 := k _ (s1.trans (Same.new (o := .lst (cutV (cs.map nI) (some (9 * (f : Int))) (some (9 * (f : Int) + 9)))) nq))
      have e2 : Kg83.isSolved cs = false := by
        unfold Kg83.isSolved
        rw [List.all_eq_false]
        exact ⟨f, List.mem_range.mpr hf, by rw [z]; decide⟩
      rw [e2] at q2
      exact q2
  · rintro σ H1 ⟨a, rfl, s1, hS⟩
    have q2 := k _ s1
    have e2 : Kg83.isSolved cs = true := by
      unfold Kg83.isSolved
      rw [List.all_eq_true]
      exact fun f hf => hS f (List.mem_range.mp hf)
    rw [e2] at q2
    exact q2
/-! are_moves -/
theorem eqv_nil (ns : List Int) : PyData.eqv (.list (ns.map PyData.int)) (.list []) = ns.isEmpty := by
  cases ns <;> simp [PyData.eqv, PyData.eqvAll]
theorem ints_lay : ∀ ns : List Int, PyData.canLayAll0 (ns.map PyData.int) = true
  | [] => by simp [PyData.canLayAll0]
  | n :: r => by
    show PyData.canLayAll0 (PyData.int n :: r.map PyData.int) = true
    simp [PyData.canLayAll0, PyData.canLay0, ints_lay r]
theorem ints_depth : ∀ ns : List Int, PyData.depthAll (ns.map PyData.int) = 0
  | [] => by simp [PyData.depthAll]
  | n :: r => by
    show PyData.depthAll (PyData.int n :: r.map PyData.int) = 0
    simp [PyData.depthAll, PyData.depth, ints_depth r]
theorem ints_shaped (ns : List Int) : SeqAt.shaped (.list (ns.map PyData.int)) = true := by
  show (PyData.canLay0 (.list (ns.map PyData.int)) && decide (PyData.depth (.list (ns.map PyData.int)) ≤ 64)) = true
  have h : PyData.depth (.list (ns.map PyData.int)) ≤ 64 := by
    simp only [PyData.depth, ints_depth]
    omega
  rw [decide_eq_true h, Bool.and_true]
  simp only [PyData.canLay0]
  exact ints_lay ns
def badMv (z : Int) : Bool := decide (z < 0) || decide (18 ≤ z)
theorem bad_all (l : List Int) : (l.filter badMv).isEmpty = l.all fun z => Kg83.within z 0 17 := by
  rw [Bool.eq_iff_iff, List.isEmpty_iff, List.filter_eq_nil_iff, List.all_eq_true]
  refine ⟨fun h z hz => ?_, fun h z hz => ?_⟩
  · have q := h z hz
    unfold badMv at q
    unfold Kg83.within
    simp at q ⊢
    omega
  · have q := h z hz
    unfold Kg83.within at q
    unfold badMv
    simp at q ⊢
    omega
def spAreMoves (K : PySem.W.Frag) : Sp := fun vs H Q _ => ∃ (m : Addr) (l : List Int) (most : Nat), vs = [.ref m, .int (most : Int)] ∧ SqL K H m (l.map V.int) ∧ l.length ≤ 1000 ∧ ∀ H', Same H H' → Q (.bl (Kg83.okMoves l most)) H'
theorem sc_are_moves : FnScope ["moves", "most", "move"] ["moves", "most"] (defScope s_are_moves) := ⟨rfl, rfl, rfl, by decide +kernel, rfl, by decide +kernel, by decide +kernel⟩
theorem ok_are_moves (T : Txt K mg A) : Has P w K mg base CX0 1 A.are_moves ["moves", "most"] (spAreMoves K) := by
  refine T.f_are_moves.ok sc_are_moves (fun vs H Q E h => ?_) (fun cdv Ar outer s H vs Q E hr h => ?_)
  · obtain ⟨_, _, _, rfl, _⟩ := h
    rfl
  obtain ⟨m, l, most, rfl, hm, h1000, k⟩ := h
  obtain ⟨_, g_MOVES⟩ := T.i_MOVES
  refine ⟨_, (pss_one (ps_ret (pe_and (pe_cmpR op_le (pe_callB call_len_seq (by rfl) T.b_len PySem.boot_len (pa_cons (pv 0) pa_nil)) (pv 1) (nomark _)) (pe_one (pe_cmpR (op_eqD hr.units) (pe_lc (own := [("move", 2)]) (g := gName 2) rfl sc_are_moves.nd (pi_list (pv 0)) (blkOk_by (N := ["moves", "most", "move"]) (sc := defScope s_are_moves) (by decide +kernel)) (fun _ _ _ _ _ => (pg_name (i := 2) sc_are_moves.nd rfl (Or.inl rfl))) (fun _ _ _ _ _ => (pts_one (PW.pt (pw_or (pt_cmpR op_lt (pv 2) pe_int (nomark _)) (pw_or1 (pt_cmpR op_ge (pv 2) (pe_gi rfl g_MOVES) (nomark _))))))) (fun _ _ _ _ _ => (pv 2))) (pe_lst pa_nil) (nomark _)))))), ?_⟩
  refine ⟨_, rfl, m, _, rfl, .inl hm, _, rfl, _, _, rfl, rfl, _, rfl, ?_⟩
  rw [List.length_map]
  by_cases hl : l.length ≤ most
  · refine dT (by omega) ?_
    refine ⟨_, rfl, m, rfl, ⟨_, hm⟩, fun D nD => lc_list (K := K) (a := m) (xs := l.map V.int) (fun i H' => Same H H' ∧ H' D = some (.lst (((l.take i).filter badMv).map V.int))) ⟨Same.new nD, upd_same⟩ (fun i H' _ ⟨s1, _⟩ => s1.seq hm) ?_ ?_⟩
    · rintro i x H1 hx ⟨s1, hD⟩
      obtain ⟨z, hz, rfl⟩ := map_at hx
      have lt : ((l.take i).filter badMv).length ≤ l.length := Nat.le_trans (List.length_filter_le _ _) (by rw [List.length_take]; omega)
      have room : (((l.take i).filter badMv).map V.int).length < sizeLine := by
        rw [List.length_map, sizeLine_eq]
        omega
      have app : badMv z = true → ∃ acc, H1 D = some (.lst acc) ∧ acc.length < sizeLine ∧ Same H (upd H1 D (.lst (acc ++ [V.int z]))) ∧ upd H1 D (.lst (acc ++ [V.int z])) D = some (.lst (((l.take (i + 1)).filter badMv).map V.int)) := fun hb =>
        ⟨_, hD, room, fun b o e => by rw [upd_ne (ne_of_none e nD)]; exact s1 _ _ e, by rw [upd_same, take_more hz, List.filter_append, List.map_append, List.filter_cons_of_pos hb]; rfl⟩
      refine ⟨rfl, _, rfl, _, _, rfl, rfl, _, rfl, ?_⟩
      by_cases h1 : z < 0
      · refine dT h1 (iteT ⟨_, rfl, app (by unfold badMv; rw [decide_eq_true h1]; rfl)⟩)
      · refine dF h1 ⟨_, rfl, _, _, rfl, rfl, _, rfl, ?_⟩
        by_cases h2 : 18 ≤ z
        · exact dT h2 ⟨_, rfl, app (by unfold badMv; rw [decide_eq_true h2]; simp)⟩
        · refine dF h2 ⟨s1, ?_⟩
          rw [hD, take_more hz, List.filter_append, List.filter_cons_of_neg (by unfold badMv; simp [h1, h2]), List.filter_nil, List.append_nil]
    · rintro H1 ⟨s1, hD⟩
      rw [List.length_map, List.take_length] at hD
      refine ⟨(by show 0 ≤ sizeLine; decide), fun q nq => ?_⟩
      have s2 : Same H1 (upd H1 q (.lst [])) := Same.new nq
      refine ⟨_, .list [], .lst (SqL.of (s2 _ _ hD)) (dp_ints _), .lst (SqL.of upd_same) .nil, ints_shaped _, by decide, ?_⟩
      have z := k _ (s1.trans s2)
      unfold Kg83.okMoves at z
      rw [decide_eq_true hl, Bool.and_true, ← bad_all] at z
      rw [eqv_nil]
      exact z
  · refine dF (by omega) ?_
    have z := k _ (Same.refl _)
    unfold Kg83.okMoves at z
    rw [decide_eq_false hl, Bool.and_false] at z
    exact z
end
end Cm
/-! Attempts, plain -/
namespace Cm
open Kg83 (Try opt least)
def cnt (l : List Try) : List Nat := l.filterMap fun x => x
theorem opt_ne (n : Nat) : opt (some n) ≠ -1 := by
  show (n : Int) ≠ -1
  omega
theorem opt_filter : ∀ l : List Try, (l.map opt).filter (fun z => !decide (z = -1)) = (cnt l).map fun (n : Nat) => (n : Int)
  | [] => rfl
  | none :: l => by
    have e : cnt (none :: l) = cnt l := rfl
    rw [e, List.map_cons, List.filter_cons_of_neg (by simp [opt]), opt_filter l]
  | some n :: l => by
    have e : cnt (some n :: l) = n :: cnt l := rfl
    rw [e, List.map_cons, List.filter_cons_of_pos (by rw [decide_eq_false (opt_ne n)]; rfl), opt_filter l]
    rfl
/-- the least: as a fold from any start -/
theorem least_from : ∀ (l : List Try) (b : Try), (∀ m, l.foldl (fun (b : Try) x => match b, x with
  | some m, some n => some (min m n)
  | none, y => y
  | m, none => m) b = some m → m ∈ b.toList ++ cnt l ∧ ∀ n ∈ b.toList ++ cnt l, m ≤ n) ∧ (l.foldl (fun (b : Try) x => match b, x with
  | some m, some n => some (min m n)
  | none, y => y
  | m, none => m) b = none → b.toList ++ cnt l = [])
  | [], b => by
    constructor
    · intro m h
      have h' : b = some m := h
      subst h'
      simp [cnt]
    · intro h
      have h' : b = none := h
      subst h'
      rfl
  | none :: l, b => by
    have ih := least_from l b
    have e : cnt (none :: l) = cnt l := rfl
    cases b with
    | none => exact ih
    | some m => exact ih
  | some n :: l, none => by
    have ih := least_from l (some n)
    exact ih
  | some n :: l, some k => by
    have ih := least_from l (some (min k n))
    have e : cnt (some n :: l) = n :: cnt l := rfl
    constructor
    · intro m h
      obtain ⟨h1, h2⟩ := ih.1 m h
      rw [e]
      simp only [Option.toList, List.singleton_append, List.mem_cons] at h1 h2 ⊢
      have hk := h2 (min k n) (.inl rfl)
      refine ⟨?_, fun z hz => ?_⟩
      · rcases h1 with z | z
        · rcases Nat.le_total k n with q | q
          · rw [Nat.min_eq_left q] at z
            exact .inl z
          · rw [Nat.min_eq_right q] at z
            exact .inr (.inl z)
        · exact .inr (.inr z)
      · rcases hz with rfl | rfl | hz
        · omega
        · omega
        · exact h2 z (.inr hz)
    · intro h
      have q := ih.2 h
      simp at q
theorem least_some {l : List Try} {m : Nat} (h : least l = some m) : m ∈ cnt l ∧ ∀ n ∈ cnt l, m ≤ n := (least_from l none).1 m h
theorem least_none {l : List Try} (h : least l = none) : cnt l = [] := (least_from l none).2 h
theorem best_none {l : List Try} (h : cnt l = []) : opt (least l) = -1 := by
  cases e : least l with
  | none => rfl
  | some m =>
    have q := (least_some e).1
    rw [h] at q
    simp at q
theorem best_some {l : List Try} {z : Int} (h1 : z ∈ (cnt l).map fun (n : Nat) => (n : Int)) (h2 : ∀ y ∈ (cnt l).map fun (n : Nat) => (n : Int), z ≤ y) : opt (least l) = z := by
  obtain ⟨n, hn, rfl⟩ := List.mem_map.mp h1
  cases e : least l with
  | none =>
    have q := least_none e
    rw [q] at hn
    simp at hn
  | some m =>
    obtain ⟨q1, q2⟩ := least_some e
    have a := h2 _ (List.mem_map_of_mem (f := fun (n : Nat) => (n : Int)) q1)
    have b := q2 n hn
    show (m : Int) = (n : Int)
    omega
/-! sums and thirds -/
theorem nearest3 (a : Nat) : ((a : Int) + 1) / 3 = ((Kg83.nearest a 3 : Nat) : Int) := by
  unfold Kg83.nearest
  omega
theorem sum_cast : ∀ l : List Nat, (l.map fun (n : Nat) => (n : Int)).sum = ((l.sum : Nat) : Int)
  | [] => rfl
  | n :: l => by
    rw [List.map_cons, List.sum_cons, List.sum_cons, sum_cast l]
    omega
/-! sorting -/
theorem insert_perm (n : Nat) : ∀ l : List Nat, (Kg83.insert_ n l).Perm (n :: l)
  | [] => List.Perm.refl _
  | m :: l => by
    unfold Kg83.insert_
    split
    · exact List.Perm.refl _
    · exact ((insert_perm n l).cons m).trans (List.Perm.swap n m l)
theorem insert_mem {n x : Nat} {l : List Nat} (h : x ∈ Kg83.insert_ n l) : x = n ∨ x ∈ l := List.mem_cons.mp ((insert_perm n l).mem_iff.mp h)
theorem insert_sorted (n : Nat) : ∀ l : List Nat, l.Pairwise (· ≤ ·) → (Kg83.insert_ n l).Pairwise (· ≤ ·)
  | [], _ => by simp [Kg83.insert_]
  | m :: l, h => by
    obtain ⟨h1, h2⟩ := List.pairwise_cons.mp h
    unfold Kg83.insert_
    split
    · rename_i hn
      refine List.pairwise_cons.mpr ⟨fun x hx => ?_, h⟩
      rcases List.mem_cons.mp hx with rfl | hx
      · exact hn
      · exact Nat.le_trans hn (h1 x hx)
    · rename_i hn
      refine List.pairwise_cons.mpr ⟨fun x hx => ?_, insert_sorted n l h2⟩
      rcases insert_mem hx with rfl | hx
      · omega
      · exact h1 x hx
theorem sorted_from : ∀ (l acc : List Nat), acc.Pairwise (· ≤ ·) → (l.foldl (fun s n => Kg83.insert_ n s) acc).Pairwise (· ≤ ·) ∧ (l.foldl (fun s n => Kg83.insert_ n s) acc).Perm (l ++ acc)
  | [], acc, h => ⟨h, List.Perm.refl _⟩
  | n :: l, acc, h => by
    obtain ⟨h1, h2⟩ := sorted_from l (Kg83.insert_ n acc) (insert_sorted n acc h)
    refine ⟨h1, h2.trans ?_⟩
    exact ((insert_perm n acc).append_left l).trans List.perm_middle
theorem sorted_ok (l : List Nat) : (Kg83.sorted l).Pairwise (· ≤ ·) ∧ (Kg83.sorted l).Perm l := by
  obtain ⟨h1, h2⟩ := sorted_from l [] List.Pairwise.nil
  rw [List.append_nil] at h2
  exact ⟨h1, h2⟩
theorem sorted_length (l : List Nat) : (Kg83.sorted l).length = l.length := (sorted_ok l).2.length_eq
theorem sorted_one : ∀ {a b : List Int}, a.Perm b → a.Pairwise (· ≤ ·) → b.Pairwise (· ≤ ·) → a = b
  | [], b, h, _, _ => (List.nil_perm.mp h).symm
  | x :: a, [], h, _, _ => absurd h.length_eq (by simp)
  | x :: a, y :: b, h, ha, hb => by
    obtain ⟨a1, a2⟩ := List.pairwise_cons.mp ha
    obtain ⟨b1, b2⟩ := List.pairwise_cons.mp hb
    have e : x = y := by
      have h1 : x ∈ y :: b := h.mem_iff.mp List.mem_cons_self
      have h2 : y ∈ x :: a := h.mem_iff.mpr List.mem_cons_self
      rcases List.mem_cons.mp h1 with z | z
      · exact z
      · rcases List.mem_cons.mp h2 with q | q
        · exact q.symm
        · have := b1 x z
          have := a1 y q
          omega
    subst e
    rw [sorted_one (List.perm_cons x |>.mp h) a2 b2]
theorem sorted_eq {l : List Nat} {ns : List Int} (hp : ns.Perm (l.map fun (n : Nat) => (n : Int))) (hs : ns.Pairwise (· ≤ ·)) : ns = (Kg83.sorted l).map fun (n : Nat) => (n : Int) := by
  obtain ⟨h1, h2⟩ := sorted_ok l
  refine sorted_one (hp.trans (h2.map _).symm) hs ?_
  rw [List.pairwise_map]
  exact h1.imp fun h => by omega
theorem count_none : ∀ l : List Try, (l.map opt).count (-1) + (cnt l).length = l.length
  | [] => rfl
  | none :: l => by
    have ih := count_none l
    have e : cnt (none :: l) = cnt l := rfl
    rw [e, List.map_cons, show opt none = (-1 : Int) from rfl, List.count_cons_self, List.length_cons]
    omega
  | some n :: l => by
    have ih := count_none l
    have e : cnt (some n :: l) = n :: cnt l := rfl
    rw [e, List.map_cons, List.count_cons_of_ne (opt_ne n), List.length_cons, List.length_cons]
    omega
/-! the average, the mean -/
theorem average_no {l : List Try} (hl : l.length ≤ 5) (h : l.length < 5 ∨ 1 < (l.map opt).count (-1)) : opt (Kg83.average l) = -1 := by
  have hc := count_none l
  unfold Kg83.average
  by_cases h5 : l.length ≠ 5
  · rw [if_pos h5]
    rfl
  · rw [if_neg h5]
    show opt (if (Kg83.sorted (cnt l)).length < 4 then none else _) = -1
    rw [sorted_length, if_pos (by omega)]
    rfl
theorem average_yes {l : List Try} {ns : List Int} (h5 : l.length = 5) (hc : ¬ 1 < (l.map opt).count (-1)) (hp : ns.Perm ((cnt l).map fun (n : Nat) => (n : Int))) (hs : ns.Pairwise (· ≤ ·)) :
    opt (Kg83.average l) = (((ns.drop 1).take 3).sum + 1) / 3 := by
  have hn := count_none l
  unfold Kg83.average
  rw [if_neg (by omega)]
  show opt (if (Kg83.sorted (cnt l)).length < 4 then none else some (Kg83.nearest ((((Kg83.sorted (cnt l)).drop 1).take 3).sum) 3)) = _
  rw [sorted_length, if_neg (by omega), sorted_eq hp hs, ← List.map_drop, ← List.map_take, sum_cast, nearest3]
  rfl
theorem mean_no {l : List Try} (h : l.length < 3 ∨ (-1 : Int) ∈ l.map opt) : opt (Kg83.mean l) = -1 := by
  unfold Kg83.mean
  rw [if_pos]
  · rfl
  · rcases h with h | h
    · exact .inl (by omega)
    · obtain ⟨x, hx, e⟩ := List.mem_map.mp h
      refine .inr (List.any_eq_true.mpr ⟨x, hx, ?_⟩)
      cases x with
      | none => rfl
      | some n => exact absurd e (opt_ne n)
theorem map_opt_cnt : ∀ {l : List Try}, ¬ (-1 : Int) ∈ l.map opt → l.map opt = (cnt l).map fun (n : Nat) => (n : Int)
  | [], _ => rfl
  | none :: l, h => absurd (List.mem_cons_self (a := (-1 : Int)) (l := l.map opt)) h
  | some n :: l, h => by
    have e : cnt (some n :: l) = n :: cnt l := rfl
    rw [e, List.map_cons, List.map_cons, map_opt_cnt fun z => h (List.mem_cons_of_mem _ z)]
    rfl
theorem mean_yes {l : List Try} (h3 : l.length = 3) (h : ¬ (-1 : Int) ∈ l.map opt) : opt (Kg83.mean l) = ((l.map opt).sum + 1) / 3 := by
  unfold Kg83.mean
  rw [if_neg]
  · rw [map_opt_cnt h, sum_cast, nearest3]
    rfl
  · intro z
    rcases z with z | z
    · exact z h3
    · obtain ⟨x, hx, e⟩ := List.any_eq_true.mp z
      cases x with
      | none => exact h (List.mem_map.mpr ⟨none, hx, rfl⟩)
      | some n => cases e
end Cm
/-! min(xs, default=d), xs a list of ints -/
namespace Cm
open PySem PySem.Spec PyProof.Rows L2
theorem least_is : ∀ (ns : List Int) (n : Int), ns.foldl min n ∈ n :: ns ∧ ∀ y ∈ n :: ns, ns.foldl min n ≤ y
  | [], n => ⟨List.mem_cons_self, fun y hy => by rw [List.mem_singleton.mp hy]; exact Int.le_refl _⟩
  | k :: ns, n => by
    obtain ⟨h1, h2⟩ := least_is ns (min n k)
    have h3 := h2 _ List.mem_cons_self
    refine ⟨?_, fun y hy => ?_⟩
    · rcases List.mem_cons.mp h1 with z | z
      · show ns.foldl min (min n k) ∈ n :: k :: ns
        rw [z]
        rcases Int.le_total n k with q | q
        · rw [Int.min_eq_left q]
          exact List.mem_cons_self
        · rw [Int.min_eq_right q]
          exact List.mem_cons_of_mem _ List.mem_cons_self
      · exact List.mem_cons_of_mem _ (List.mem_cons_of_mem _ z)
    · show ns.foldl min (min n k) ≤ y
      rcases List.mem_cons.mp hy with z | z
      · omega
      · rcases List.mem_cons.mp z with z | z
        · omega
        · exact h2 y (List.mem_cons_of_mem _ z)
section
variable {X : Cx}
def rMinD (K : PySem.W.Frag) : List V → List V → Hp → VK → Prop := fun vs zs H Q => ∃ (a : Addr) (ns : List Int) (d : V), vs = [V.ref a] ∧ zs = [d] ∧ SqL K H a (ns.map V.int) ∧ (ns = [] → Q d H) ∧ ∀ m, m ∈ ns → (∀ y, y ∈ ns → m ≤ y) → Q (.int m) H
theorem cr_minD (hc : X.calm = true) (hu : X.A.units + 64 < cLine) : CallRK X (.builtin "min") [Str.ofString "default"] (rMinD X.K) := by
  rintro pins s σ H _ _ us ws Q I rel relD ⟨a, ns, d, rfl, rfl, sq, q0, q1⟩
  obtain ⟨its, items, pl, _⟩ := I.list sq
  obtain ⟨as, data⟩ := Dp.readsAll I _ _ its (dp_ints ns) items
  rw [Vals.ref1 rel]
  obtain ⟨dv, rfl, dr⟩ := vals1 relD
  refine PySem.W.min_list_default (xs := ns.map PyData.int) (I.ok.hd hc) pl.isList data ⟨fun x hx y hy => ?_, fun x hx => ?_⟩ ?_ (fun e h' tk kp => ⟨d, H, I.kept kp, dr, q0 (List.map_eq_nil_iff.mp e)⟩) fun y ys i v h' tk bs e _ rd kp => ?_
  · obtain ⟨i, _, rfl⟩ := List.mem_map.mp hx
    obtain ⟨j, _, rfl⟩ := List.mem_map.mp hy
    simp [PySem.W.alike]
  · obtain ⟨i, _, rfl⟩ := List.mem_map.mp hx
    exact fun z => by cases z
  · rw [ints_depth]
    omega
  · match ns, e with
    | n :: ms, e =>
      injection e with e1 e2
      rw [← e1, ← e2, PySem.W.minD_ints] at rd
      cases rd
      obtain ⟨m1, m2⟩ := least_is ms n
      exact ⟨.int _, H, I.kept kp, ⟨_, rfl⟩, q1 _ m1 m2⟩
end
end Cm
namespace Cm
open PySem PySem.Spec PyProof.Rows L2
/-! what holds of a meet's state while a round is -/
structure WF (s : Kg83.State) : Prop where
  num : s.number ≤ 40
  kind : s.kind ≤ 3
  lim : s.limit ≤ 360000
  nin : s.inIt.Nodup
  il : s.inIt.length ≤ 40
  lt : ∀ i ∈ s.inIt, i < s.number
  tl : s.tries.length = s.number
  len : ∀ i, (s.triesOf i).length ≤ Kg83.attempts s.kind
  val : ∀ i x, some x ∈ s.triesOf i → x ≤ 360000
  out : ∀ i, i ∉ s.inIt → s.triesOf i = []
  scl : s.scrambles.length ≤ 3
  scm : ∀ z ∈ s.scrambles, z.length ≤ 30 ∧ ∀ m ∈ z, m < 18
theorem WF.len5 {s : Kg83.State} (h : WF s) (i : Nat) : (s.triesOf i).length ≤ 5 := by
  have q := h.len i
  unfold Kg83.attempts at q
  split at q <;> omega
/-- the round's parts -/
structure RA where
  dx : Addr
  mem : Addr
  att : Addr
  sc : Addr
  atts : List Addr
  scs : List Addr
abbrev tI (x : Kg83.Try) : V := .int (Kg83.opt x)
def rF (s : Kg83.State) (R : RA) : List (Str × V) := [("kind", nI s.kind), ("limit", nI s.limit), ("cutoff", nI s.cutoff), ("members", .ref R.mem), ("attempts", .ref R.att), ("scrambles", .ref R.sc)]
theorem rF_kind (s : Kg83.State) (R : RA) : (rF s R).lookup ("kind" : Str) = some (nI s.kind) := rfl
theorem rF_limit (s : Kg83.State) (R : RA) : (rF s R).lookup ("limit" : Str) = some (nI s.limit) := rfl
theorem rF_cutoff (s : Kg83.State) (R : RA) : (rF s R).lookup ("cutoff" : Str) = some (nI s.cutoff) := rfl
theorem rF_members (s : Kg83.State) (R : RA) : (rF s R).lookup ("members" : Str) = some (.ref R.mem) := rfl
theorem rF_attempts (s : Kg83.State) (R : RA) : (rF s R).lookup ("attempts" : Str) = some (.ref R.att) := rfl
theorem rF_scrambles (s : Kg83.State) (R : RA) : (rF s R).lookup ("scrambles" : Str) = some (.ref R.sc) := rfl
theorem rF_may (s : Kg83.State) (R : RA) : (rF s R).lookup ("may_have" : Str) = none := rfl
theorem rF_over (s : Kg83.State) (R : RA) : (rF s R).lookup ("is_over" : Str) = none := rfl
theorem rF_best (s : Kg83.State) (R : RA) : (rF s R).lookup ("best" : Str) = none := rfl
theorem rF_result (s : Kg83.State) (R : RA) : (rF s R).lookup ("result" : Str) = none := rfl
theorem rF_rank (s : Kg83.State) (R : RA) : (rF s R).lookup ("rank" : Str) = none := rfl
theorem rF_order (s : Kg83.State) (R : RA) : (rF s R).lookup ("order" : Str) = none := rfl
theorem rF_timed (s : Kg83.State) (R : RA) : (rF s R).lookup ("timed" : Str) = none := rfl
def attK (is : List Nat) (as : List Addr) : List (Key × V) := (is.zip as).map fun p => (Sum.inl (p.1 : Int), V.ref p.2)
structure RoundAt (A : Ads) (H : Hp) (r : Addr) (R : RA) (s : Kg83.State) : Prop where
  ins : H r = some (.ins A.CRound R.dx (rF s R))
  mem : H R.mem = some (.lst (s.inIt.map nI))
  att : H R.att = some (.dK (attK s.inIt R.atts))
  al : R.atts.length = s.inIt.length
  at_ : ∀ (k : Nat) i a, s.inIt[k]? = some i → R.atts[k]? = some a → H a = some (.lst ((s.triesOf i).map tI))
  scr : H R.sc = some (.lst (R.scs.map V.ref))
  scl : R.scs.length = s.scrambles.length
  sc_ : ∀ (k : Nat) z a, s.scrambles[k]? = some z → R.scs[k]? = some a → H a = some (.lst (z.map nI))
  nd : (R.sc :: R.mem :: (R.atts ++ R.scs)).Nodup
  wf : WF s
theorem RoundAt.same {A : Ads} {H H' : Hp} {r : Addr} {R : RA} {s : Kg83.State} (h : RoundAt A H r R s) (e : Same H H') : RoundAt A H' r R s :=
  ⟨e _ _ h.ins, e _ _ h.mem, e _ _ h.att, h.al, fun k i a h1 h2 => e _ _ (h.at_ k i a h1 h2), e _ _ h.scr, h.scl, fun k z a h1 h2 => e _ _ (h.sc_ k z a h1 h2), h.nd, h.wf⟩
theorem attK_at : ∀ {is : List Nat} {as : List Addr} {k i : Nat} {a : Addr}, is.Nodup → is[k]? = some i → as[k]? = some a → valV (attK is as) (Sum.inl (i : Int)) = some (.ref a)
  | [], _, k, i, a, _, h, _ => by simp at h
  | _ :: _, [], k, i, a, _, _, h => by simp at h
  | x :: is, y :: as, 0, i, a, _, h1, h2 => by
    simp at h1 h2
    subst h1 h2
    exact valV_pos rfl
  | x :: is, y :: as, k + 1, i, a, nd, h1, h2 => by
    obtain ⟨n1, n2⟩ := List.nodup_cons.mp nd
    have h1' : is[k]? = some i := by simpa using h1
    have h2' : as[k]? = some a := by simpa using h2
    have hx : x ≠ i := fun e => n1 (e ▸ List.mem_of_getElem? h1')
    have q := attK_at (as := as) n2 h1' h2'
    exact (valV_neg (p := (Sum.inl (x : Int), V.ref y)) (r := attK is as) (k := Sum.inl (i : Int)) fun e => hx (by injection e with e; omega)).trans q
theorem RoundAt.get {A : Ads} {H : Hp} {r : Addr} {R : RA} {s : Kg83.State} (h : RoundAt A H r R s) {i : Nat} (hi : i ∈ s.inIt) :
    ∃ (k : Nat) (a : Addr), s.inIt[k]? = some i ∧ R.atts[k]? = some a ∧ DGet H R.att (nI i) (some (.ref a)) ∧ H a = some (.lst ((s.triesOf i).map tI)) := by
  obtain ⟨k, hk⟩ := List.mem_iff_getElem?.mp hi
  obtain ⟨hl, _⟩ := List.getElem?_eq_some_iff.mp hk
  have ha : R.atts[k]? = some (R.atts[k]'(by rw [h.al]; exact hl)) := List.getElem?_eq_getElem _
  refine ⟨k, _, hk, ha, ?_, h.at_ k i _ hk ha⟩
  have q := DGet.k (k := Sum.inl (i : Int)) h.att
  rw [attK_at h.wf.nin hk ha] at q
  exact q
/-- a def of a round's that reads and hands back one value -/
def spR (A : Ads) (f : Kg83.State → Nat → V) : Sp := fun vs H Q _ => ∃ (r : Addr) (R : RA) (s : Kg83.State) (i : Nat), vs = [.ref r, nI i] ∧ RoundAt A H r R s ∧ i ∈ s.inIt ∧ ∀ H', Same H H' → Q (f s i) H'
section
variable {P : Program} {w : World} {K : PySem.W.Frag} {mg : Str → Option Value} {base : Heap} {A : Ads}
/-! third -/
def spThird : Sp := fun vs H Q _ => ∃ z : Int, vs = [.int z] ∧ Q (.int ((z + 1) / 3)) H
theorem sc_third : FnScope ["total"] ["total"] (defScope s_third) := ⟨rfl, rfl, rfl, by decide +kernel, rfl, by decide +kernel, by decide +kernel⟩
theorem ok_third (T : Txt K mg A) : Has P w K mg base CX0 1 A.third ["total"] spThird := by
  refine T.f_third.ok sc_third (fun vs H Q E h => ?_) (fun cdv Ar outer s H vs Q E hr h => ?_)
  · obtain ⟨_, rfl, _⟩ := h
    rfl
  obtain ⟨z, rfl, k⟩ := h
  refine ⟨_, (pss_one (ps_ret (pe_op op_fdiv (pe_op op_add (pv 0) pe_int) pe_int))), ?_⟩
  exact ⟨_, rfl, _, _, rfl, rfl, _, _, rfl, rfl, ⟨by decide, by decide⟩, k⟩
/-! average -/
def spAverage (K : PySem.W.Frag) : Sp := fun vs H Q _ => ∃ (a : Addr) (l : List Kg83.Try), vs = [.ref a] ∧ SqL K H a (l.map tI) ∧ l.length ≤ 5 ∧ ∀ H', Same H H' → Q (tI (Kg83.average l)) H'
theorem mapTI (l : List Kg83.Try) : l.map tI = (l.map Kg83.opt).map V.int := by
  rw [List.map_map]
  rfl
theorem neB (z : Int) : (!decide (V.int z = V.int (-1))) = !decide (z = -1) := by
  by_cases h : z = -1
  · subst h
    rfl
  · rw [decide_eq_false h, decide_eq_false (fun q => h (by injection q))]
theorem sc_average : FnScope ["some", "counted", "one"] ["some"] (defScope s_average) := ⟨rfl, rfl, rfl, by decide +kernel, rfl, by decide +kernel, by decide +kernel⟩
theorem ok_average (T : Txt K mg A) : Has P w K mg base CX0 2 A.average ["some"] (spAverage K) := by
  refine T.f_average.ok sc_average (fun vs H Q E h => ?_) (fun cdv Ar outer s H vs Q E hr h => ?_)
  · obtain ⟨_, _, rfl, _⟩ := h
    rfl
  obtain ⟨a, l, rfl, hl, h5, k⟩ := h
  have G_third := ok_third (P := P) (w := w) (base := base) T
  rw [mapTI] at hl
  obtain ⟨_, g_NONE⟩ := T.i_NONE
  refine ⟨_, (pss_cons (ps_if (PW.pt (pw_or (pt_cmpR op_lt (pe_callB call_len_seq (by rfl) T.b_len PySem.boot_len (pa_cons (pv 0) pa_nil)) pe_int (nomark _)) (pw_or1 (pt_cmpR op_gt (pe_bm PySem.F.plainAttrs_list PySem.F.slot_list_count PySem.F.type_list_count mt_lcount (pv 0) (pa_cons (pe_gi rfl g_NONE) pa_nil)) pe_int (nomark _))))) (pss_one (ps_ret (pe_gi rfl g_NONE))) pss_nil)
    (pss_cons (ps_set (i := 1) sc_average.nd rfl (Or.inl rfl) (pe_callB cr_sorted (by rfl) T.b_sorted (by decide +kernel) (pa_cons (pe_lc (own := [("one", 2)]) (g := gName 2) rfl sc_average.nd (pi_list (pv 0)) (blkOk_by (N := ["some", "counted", "one"]) (sc := defScope s_average) (by decide +kernel)) (fun _ _ _ _ _ => (pg_name (i := 2) sc_average.nd rfl (Or.inl rfl))) (fun _ _ _ _ _ => (pts_one (pt_cmpR op_ne (pv 2) (pe_gi rfl g_NONE) (nomark _)))) (fun _ _ _ _ _ => (pv 2))) pa_nil)))
    (pss_one (ps_ret (pe_c G_third (hr.mono (by decide)) rfl T.g_third pass0 (pa_cons (pe_callB (cr_sum rfl) (by rfl) T.b_sum (by decide +kernel) (pa_cons (pe_slice sl_list (pv 1) (po_some pe_int) (po_some pe_int)) pa_nil)) pa_nil)))))), ?_⟩
  refine ⟨_, rfl, a, _, rfl, .inl hl, _, _, rfl, rfl, _, rfl, ?_⟩
  rw [List.length_map, List.length_map]
  by_cases c5 : l.length < 5
  · refine dT (by omega) (iteT ?_)
    have q := k _ (Same.refl _)
    rw [tI, average_no h5 (.inl c5)] at q
    exact q
  refine dF (by omega) ?_
  refine ⟨_, rfl, .inl ⟨rfl, _, hl⟩, a, _, _, rfl, rfl, hl, _, _, rfl, rfl, _, rfl, ?_⟩
  by_cases cc : 1 < (l.map Kg83.opt).count (-1)
  · refine dT (by omega) ?_
    have q := k _ (Same.refl _)
    rw [tI, average_no h5 (.inr cc)] at q
    exact q
  refine dF (by omega) ?_
  refine ⟨_, rfl, a, rfl, ⟨_, hl⟩, fun D nD => lc_list (K := K) (a := a) (xs := (l.map Kg83.opt).map V.int) (fun i H' => Same H H' ∧ H' D = some (.lst ((((l.map Kg83.opt).take i).filter fun z => !decide (z = -1)).map V.int))) ⟨Same.new nD, upd_same⟩ (fun i H' _ ⟨s1, _⟩ => s1.seq hl) ?_ ?_⟩
  · rintro i x H1 hx ⟨s1, hD⟩
    obtain ⟨z, hz, rfl⟩ := map_at hx
    refine ⟨rfl, _, rfl, rfl, _, rfl, ?_⟩
    rw [neB]
    have lt : ((((l.map Kg83.opt).take i).filter fun z => !decide (z = -1)).map V.int).length < sizeLine := by
      rw [List.length_map, sizeLine_eq]
      have q1 := List.length_filter_le (fun z : Int => !decide (z = -1)) ((l.map Kg83.opt).take i)
      rw [List.length_take, List.length_map] at q1
      omega
    by_cases hm : z = -1
    · refine ifF (by rw [decide_eq_true hm]; rfl) ⟨s1, ?_⟩
      rw [hD, take_more hz, List.filter_append, List.filter_cons_of_neg (by rw [decide_eq_true hm]; decide), List.filter_nil, List.append_nil]
    · refine ifT (by rw [decide_eq_false hm]; rfl) ⟨_, rfl, _, hD, lt, fun b o e => ?_, ?_⟩
      · rw [upd_ne (ne_of_none e nD)]
        exact s1 _ _ e
      · rw [upd_same, take_more hz, List.filter_append, List.map_append, List.filter_cons_of_pos (by rw [decide_eq_false hm]; rfl)]
        rfl
  · rintro H1 ⟨s1, hD⟩
    rw [List.length_map, List.take_length, opt_filter] at hD
    refine ⟨D, _, rfl, SqL.of hD, ?_, fun ns p hp hs np => ?_⟩
    · have hc := count_none l
      rw [List.length_map]
      omega
    refine ⟨_, rfl, 1, rfl, 4, rfl, p, _, rfl, SqL.of upd_same, fun q nq => ?_⟩
    have e : cutV (ns.map V.int) (some 1) (some 4) = ((ns.drop 1).take 3).map V.int := by
      have z := cutV_nat (ns.map V.int) 1 4
      rw [List.map_take, List.map_drop]
      exact z
    refine ⟨q, (ns.drop 1).take 3, rfl, SqL.of (by rw [← e]; exact upd_same), _, rfl, ?_⟩
    have q2 := k _ (s1.trans ((Same.new (o := .lst (ns.map V.int)) np).trans (Same.new (o := .lst (cutV (ns.map V.int) (some 1) (some 4))) nq)))
    rw [tI, average_yes (by omega) cc hp hs] at q2
    exact q2
end
end Cm
namespace Cm
open PySem PySem.Spec PyProof.Rows L2
/-! the readings of tests within comprehensions -/
def rLe : R2 := rI0 fun i j => .bl (decide (i ≤ j))
def rLt : R2 := rI0 fun i j => .bl (decide (i < j))
def tt_may (K : PySem.W.Frag) : TT := tAnd (tTest (tOp rNe (tVar 5) (tC (.int (-1))))) (tTest (tOp (rI0 fun i j => .bl (decide (i ≤ j))) (tVar 5) (tFld K (tVar 0) "cutoff")))
def rLen (K : PySem.W.Frag) : List V → Hp → VK → Prop := fun xs H Q => ∃ p ys, xs = [.ref p] ∧ (SqL K H p ys ∨ SqT K H p ys) ∧ Q (.int ys.length) H
/-! the cutoff, plain -/
def inCut (c : Nat) (z : Int) : Bool := !decide (z = -1) && decide (z ≤ (c : Int))
theorem cut_any (c : Nat) : ∀ l : List Kg83.Try, ((l.map Kg83.opt).filter (inCut c)).isEmpty = !(l.any fun x => match x with
    | some n => decide (n ≤ c)
    | none => false)
  | [] => rfl
  | none :: l => by
    rw [List.map_cons, List.filter_cons_of_neg (by simp [inCut, Kg83.opt]), cut_any c l, List.any_cons, Bool.false_or]
  | some n :: l => by
    rw [List.map_cons, List.any_cons]
    have e : inCut c (Kg83.opt (some n)) = decide (n ≤ c) := by
      unfold inCut
      rw [decide_eq_false (opt_ne n)]
      show (true && decide ((n : Int) ≤ (c : Int))) = _
      rw [Bool.true_and, Bool.eq_iff_iff]
      simp
    by_cases h : n ≤ c
    · rw [List.filter_cons_of_pos (by rw [e, decide_eq_true h])]
      show false = !(decide (n ≤ c) || _)
      rw [decide_eq_true h]
      rfl
    · rw [List.filter_cons_of_neg (by rw [e, decide_eq_false h]; decide), cut_any c l]
      show _ = !(decide (n ≤ c) || _)
      rw [decide_eq_false h, Bool.false_or]
theorem allowed_whole {s : Kg83.State} {i : Nat} (h : s.cutoff = 0 ∨ (s.triesOf i).length < (if s.kind = 0 then 2 else 1)) : s.allowed i = Kg83.attempts s.kind := by
  unfold Kg83.State.allowed
  rw [if_neg]
  rintro ⟨h1, h2, _⟩
  rcases h with h | h
  · omega
  · exact absurd h2 (by omega)
theorem allowed_cut {s : Kg83.State} {i f : Nat} (hf : f = if s.kind = 0 then 2 else 1) (hc : s.cutoff ≠ 0) (hl : f ≤ (s.triesOf i).length) :
    s.allowed i = if ((((s.triesOf i).take f).map Kg83.opt).filter (inCut s.cutoff)).isEmpty = true then f else Kg83.attempts s.kind := by
  rw [cut_any]
  unfold Kg83.State.allowed
  rw [← hf]
  show (if 0 < s.cutoff ∧ f ≤ (s.triesOf i).length ∧ _ then f else Kg83.attempts s.kind) = _
  cases e : ((s.triesOf i).take f).any fun x => match x with
    | some n => decide (n ≤ s.cutoff)
    | none => false with
  | false => rw [if_pos ⟨by omega, hl, rfl⟩, if_pos (by rfl)]
  | true => rw [if_neg (by rintro ⟨_, _, z⟩; cases z), if_neg (by decide)]
theorem cutV_to (xs : List V) (b : Nat) : cutV xs none (some (b : Int)) = xs.take b := by
  unfold cutV
  rw [HT.sIx_nat, HT.sIx_none, List.drop_zero, Nat.sub_zero]
  by_cases hb : b ≤ xs.length
  · rw [Nat.min_eq_left hb]
  · rw [Nat.min_eq_right (by omega), List.take_of_length_le (Nat.le_refl _), List.take_of_length_le (by omega)]
section
variable {P : Program} {w : World} {K : PySem.W.Frag} {mg : Str → Option Value} {base : Heap} {A : Ads}
/-! may_have -/
def spMay (A : Ads) : Sp := spR A fun s i => nI (s.allowed i)
theorem nI_eq {a b : Nat} : decide (nI a = V.int (b : Int)) = decide (a = b) := by
  by_cases h : a = b
  · subst h
    rw [decide_eq_true rfl, decide_eq_true rfl]
  · rw [decide_eq_false h, decide_eq_false (fun z => h (by injection z with z; omega))]
theorem sc_Round_may_have : FnScope ["self", "member", "whole", "first", "some", "one"] ["self", "member"] (defScope s_Round_may_have) := ⟨rfl, rfl, rfl, by decide +kernel, rfl, by decide +kernel, by decide +kernel⟩
theorem ok_may_have (T : Txt K mg A) : Has P w K mg base CX0 1 A.Round_may_have ["self", "member"] (spMay A) := by
  refine T.f_Round_may_have.ok sc_Round_may_have (fun vs H Q E h => ?_) (fun cdv Ar outer s0 H vs Q E hr h => ?_)
  · obtain ⟨_, _, _, _, rfl, _⟩ := h
    rfl
  obtain ⟨r, R, s, i, rfl, hR, hi, k⟩ := h
  obtain ⟨_, a, _, _, hg, ha⟩ := hR.get hi
  have len5 := hR.wf.len5 i
  obtain ⟨_, g_NONE⟩ := T.i_NONE
  obtain ⟨_, g_AVERAGE⟩ := T.i_AVERAGE
  refine ⟨_, (pss_cons (ps_set (i := 2) sc_Round_may_have.nd rfl (Or.inl rfl) (pe_ifExp (pt_cmpR op_eq (pe_fld (pv 0) rfl) (pe_gi rfl g_AVERAGE) (nomark _)) pe_int pe_int))
    (pss_cons (ps_set (i := 3) sc_Round_may_have.nd rfl (Or.inl rfl) (pe_ifExp (pt_cmpR op_eq (pe_fld (pv 0) rfl) (pe_gi rfl g_AVERAGE) (nomark _)) pe_int pe_int))
    (pss_cons (ps_set (i := 4) sc_Round_may_have.nd rfl (Or.inl rfl) (pe_dget (hu_of hr) (pe_fld (pv 0) rfl) (pv 1) (fun _ _ => rfl)))
    (pss_cons (ps_if (PW.pt (pw_or (pt_cmpR op_eq (pe_fld (pv 0) rfl) pe_int (nomark _)) (pw_or1 (pt_cmpR op_lt (pe_callB call_len_seq (by rfl) T.b_len PySem.boot_len (pa_cons (pv 4) pa_nil)) (pv 3) (nomark _))))) (pss_one (ps_ret (pv 2))) pss_nil)
    (pss_cons (ps_if (pt_cmpR (op_neD hr.units) (pe_lc (own := [("one", 5)]) (g := gName 5) (tt := tt_may K) rfl sc_Round_may_have.nd (pi_list (pe_slice sl_list (pv 4) po_none (po_some (pv 3)))) (blkOk_by (N := ["self", "member", "whole", "first", "some", "one"]) (sc := defScope s_Round_may_have) (by decide +kernel)) (fun _ _ _ _ _ => (pg_name (i := 5) sc_Round_may_have.nd rfl (Or.inl rfl))) (fun _ _ _ _ _ => (pts_one (PW.pt (pw_and (pt_cmpR op_ne (pv 5) (pe_gi rfl g_NONE) (nomark _)) (pw_and1 (pt_cmpR op_le (pv 5) (pe_fld (pv 0) rfl) (nomark _))))))) (fun _ _ _ _ _ => (pv 5))) (pe_lst pa_nil) (nomark _)) (pss_one (ps_ret (pv 2))) pss_nil)
    (pss_one (ps_ret (pv 3)))))))), ?_⟩
  -- whole, first
  have go : ∀ (wh f : Nat), wh = Kg83.attempts s.kind → (f = if s.kind = 0 then 2 else 1) → ∀ D : Ends, (D.rt = Q) →
      tSeq (tAsg (tDGet (tFld K (tVar 0) "attempts") (tVar 1)) (gName 4)) (tSeq (tIfS (tOr (tTest (tOp rEq (tFld K (tVar 0) "cutoff") (tC (.int 0)))) (tTest (tOp (rI0 fun i j => .bl (decide (i < j))) (tCB (rLen K) (tCons (tVar 4) tNil)) (tVar 3)))) (tRet (tVar 2)) tNext)
        (tSeq (tIfS (tTest (tOp (rNeD K) (tLc (iList K (tSl (rSlL K) (tVar 4) tNoPart (tPart (tVar 3)))) (gName 5) (tt_may K) (tVar 5) [5]) (tLst tNil))) (tRet (tVar 2)) tNext) (tRet (tVar 3)))) D [some (.ref r), some (nI i), some (nI wh), some (nI f), none, none] H := by
    intro wh f hw hf D hD
    refine ⟨_, rfl, r, A.CRound, R.dx, _, _, rfl, hR.ins, T.c_Round, T.n_Round_attempts, rF_attempts s R, _, rfl, R.att, .ref a, rfl, hg, ?_⟩
    refine ⟨_, rfl, r, A.CRound, R.dx, _, _, rfl, hR.ins, T.c_Round, T.n_Round_cutoff, rF_cutoff s R, rfl, _, rfl, ?_⟩
    have e0 := nI_eq (a := s.cutoff) (b := 0)
    have fin : s.allowed i = wh → ∀ H', Same H H' → D.rt (nI wh) H' := fun e H' s1 => by
      rw [hD, ← e]
      exact k H' s1
    by_cases c0 : s.cutoff = 0
    · refine ifT (by rw [show decide (nI s.cutoff = V.int 0) = decide (s.cutoff = 0) from e0, decide_eq_true c0]) (iteT ⟨_, rfl, fin ?_ _ (Same.refl _)⟩)
      rw [hw]
      exact allowed_whole (.inl c0)
    refine ifF (by rw [show decide (nI s.cutoff = V.int 0) = decide (s.cutoff = 0) from e0, decide_eq_false c0]) ?_
    refine ⟨_, rfl, a, _, rfl, .inl (SqL.of ha), _, rfl, _, _, rfl, rfl, _, rfl, ?_⟩
    rw [List.length_map]
    by_cases cl : (s.triesOf i).length < f
    · refine dT (by omega) ⟨_, rfl, fin ?_ _ (Same.refl _)⟩
      rw [hw]
      exact allowed_whole (.inr (by rw [← hf]; exact cl))
    refine dF (by omega) ?_
    have ea := allowed_cut hf c0 (Nat.le_of_not_lt cl)
    refine ⟨_, rfl, _, rfl, f, rfl, a, _, rfl, SqL.of ha, fun q nq => ⟨q, rfl, ⟨_, SqL.of upd_same⟩, fun L nL => ?_⟩⟩
    have ec : cutV ((s.triesOf i).map tI) none (some (f : Int)) = (((s.triesOf i).take f).map Kg83.opt).map V.int := by
      rw [cutV_to, mapTI, List.map_take, List.map_take]
    rw [ec] at nL ⊢
    have sq := Same.new (o := .lst ((((s.triesOf i).take f).map Kg83.opt).map V.int)) nq
    refine lc_list (K := K) (a := q) (xs := (((s.triesOf i).take f).map Kg83.opt).map V.int) (fun j H' => Same (upd H q (.lst ((((s.triesOf i).take f).map Kg83.opt).map V.int))) H' ∧ H' L = some (.lst (((((s.triesOf i).take f).map Kg83.opt).take j).filter (inCut s.cutoff) |>.map V.int)))
      ⟨Same.new nL, upd_same⟩ (fun j H' _ ⟨s1, _⟩ => SqL.of (s1 _ _ upd_same)) ?_ ?_
    · rintro j x H1 hx ⟨s1, hL⟩
      obtain ⟨z, hz, rfl⟩ := map_at hx
      have hr1 := s1 _ _ (sq _ _ hR.ins)
      have lt : ((((((s.triesOf i).take f).map Kg83.opt).take j).filter (inCut s.cutoff)).map V.int).length < sizeLine := by
        rw [List.length_map, sizeLine_eq]
        have q1 := List.length_filter_le (inCut s.cutoff) ((((s.triesOf i).take f).map Kg83.opt).take j)
        rw [List.length_take, List.length_map, List.length_take] at q1
        omega
      have skip : inCut s.cutoff z = false → Same (upd H q (.lst ((((s.triesOf i).take f).map Kg83.opt).map V.int))) H1 ∧ H1 L = some (.lst (((((s.triesOf i).take f).map Kg83.opt).take (j + 1)).filter (inCut s.cutoff) |>.map V.int)) := fun hc =>
        ⟨s1, by rw [hL, take_more hz, List.filter_append, List.filter_cons_of_neg (by rw [hc]; decide), List.filter_nil, List.append_nil]⟩
      refine ⟨rfl, _, rfl, rfl, _, rfl, ?_⟩
      rw [neB]
      by_cases hm : z = -1
      · refine ifF (by rw [decide_eq_true hm]; rfl) (iteF (skip ?_))
        unfold inCut
        rw [decide_eq_true hm]
        rfl
      refine ifT (by rw [decide_eq_false hm]; rfl) ⟨_, rfl, _, rfl, r, A.CRound, R.dx, _, _, rfl, hr1, T.c_Round, T.n_Round_cutoff, rF_cutoff s R, _, _, rfl, rfl, _, rfl, ?_⟩
      by_cases hz2 : z ≤ (s.cutoff : Int)
      · refine dT hz2 ⟨_, rfl, _, hL, lt, fun b o e => ?_, ?_⟩
        · rw [upd_ne (ne_of_none e nL)]
          exact s1 _ _ e
        · rw [upd_same, take_more hz, List.filter_append, List.map_append, List.filter_cons_of_pos (by unfold inCut; rw [decide_eq_false hm, decide_eq_true hz2]; rfl)]
          rfl
      · refine dF hz2 (skip ?_)
        unfold inCut
        rw [decide_eq_false hz2, Bool.and_false]
    · rintro H1 ⟨s1, hL⟩
      rw [List.length_map, List.take_length] at hL
      refine ⟨(by show 0 ≤ sizeLine; decide), fun p np => ?_⟩
      have s2 : Same H1 (upd H1 p (.lst [])) := Same.new np
      refine ⟨_, .list [], .lst (SqL.of (s2 _ _ hL)) (dp_ints _), .lst (SqL.of upd_same) .nil, ints_shaped _, by decide, _, rfl, ?_⟩
      rw [eqv_nil]
      have sA := (sq.trans s1).trans s2
      cases hE : ((((s.triesOf i).take f).map Kg83.opt).filter (inCut s.cutoff)).isEmpty with
      | false =>
        rw [hE, if_neg Bool.false_ne_true] at ea
        exact iteT ⟨_, rfl, fin (by rw [ea, hw]) _ sA⟩
      | true =>
        rw [hE, if_pos rfl] at ea
        refine iteF ⟨_, rfl, ?_⟩
        have q3 : Q (nI (s.allowed i)) _ := k _ sA
        rw [ea] at q3
        rw [hD]
        exact q3
  refine ⟨_, rfl, r, A.CRound, R.dx, _, _, rfl, hR.ins, T.c_Round, T.n_Round_kind, rF_kind s R, rfl, _, rfl, ?_⟩
  have ek := nI_eq (a := s.kind) (b := 0)
  by_cases k0 : s.kind = 0
  · refine ifT (by rw [show decide (nI s.kind = V.int 0) = decide (s.kind = 0) from ek, decide_eq_true k0]) ?_
    refine ⟨_, rfl, r, A.CRound, R.dx, _, _, rfl, hR.ins, T.c_Round, T.n_Round_kind, rF_kind s R, rfl, _, rfl, ?_⟩
    refine ifT (by rw [show decide (nI s.kind = V.int 0) = decide (s.kind = 0) from ek, decide_eq_true k0]) ?_
    exact go 5 2 (by unfold Kg83.attempts; rw [if_pos k0]) (by rw [if_pos k0]) _ rfl
  · refine ifF (by rw [show decide (nI s.kind = V.int 0) = decide (s.kind = 0) from ek, decide_eq_false k0]) ?_
    refine ⟨_, rfl, r, A.CRound, R.dx, _, _, rfl, hR.ins, T.c_Round, T.n_Round_kind, rF_kind s R, rfl, _, rfl, ?_⟩
    refine ifF (by rw [show decide (nI s.kind = V.int 0) = decide (s.kind = 0) from ek, decide_eq_false k0]) ?_
    exact go 3 1 (by unfold Kg83.attempts; rw [if_neg k0]) (by rw [if_neg k0]) _ rfl
end
end Cm
namespace Cm
open PySem PySem.Spec PyProof.Rows L2
theorem inV_ints (z : Int) : ∀ ns : List Int, inV (.int z) (ns.map V.int) = decide (z ∈ ns)
  | [] => by simp [inV]
  | n :: ns => by
    have ih := inV_ints z ns
    unfold inV at ih ⊢
    rw [List.map_cons, List.any_cons, ih, Bool.eq_iff_iff]
    simp [eqV]
    constructor
    · rintro (h | h)
      · exact .inl h.symm
      · exact .inr h
    · rintro (h | h)
      · exact .inl h.symm
      · exact .inr h
theorem flat_ints : ∀ ns : List Int, (ns.map V.int).all flatV = true
  | [] => rfl
  | n :: ns => by
    rw [List.map_cons, List.all_cons, flat_ints ns]
    rfl
section
variable {P : Program} {w : World} {K : PySem.W.Frag} {mg : Str → Option Value} {base : Heap} {A : Ads}
/-! best -/
def spBest (A : Ads) : Sp := spR A fun s i => tI (Kg83.least (s.triesOf i))
theorem sc_Round_best : FnScope ["self", "member", "one"] ["self", "member"] (defScope s_Round_best) := ⟨rfl, rfl, rfl, by decide +kernel, rfl, by decide +kernel, by decide +kernel⟩
theorem ok_best (T : Txt K mg A) : Has P w K mg base CX0 1 A.Round_best ["self", "member"] (spBest A) := by
  refine T.f_Round_best.ok sc_Round_best (fun vs H Q E h => ?_) (fun cdv Ar outer s0 H vs Q E hr h => ?_)
  · obtain ⟨_, _, _, _, rfl, _⟩ := h
    rfl
  obtain ⟨r, R, s, i, rfl, hR, hi, k⟩ := h
  obtain ⟨_, a, _, _, hg, ha⟩ := hR.get hi
  have len5 := hR.wf.len5 i
  rw [mapTI] at ha
  obtain ⟨_, g_NONE⟩ := T.i_NONE
  refine ⟨_, (pss_one (ps_ret (pe_callBK (cr_minD rfl hr.units) (by rfl) T.b_min (by decide +kernel) (pa_cons (pe_lc (own := [("one", 2)]) (g := gName 2) rfl sc_Round_best.nd (pi_list (pe_dget (hu_of hr) (pe_fld (pv 0) rfl) (pv 1) (fun _ _ => rfl))) (blkOk_by (N := ["self", "member", "one"]) (sc := defScope s_Round_best) (by decide +kernel)) (fun _ _ _ _ _ => (pg_name (i := 2) sc_Round_best.nd rfl (Or.inl rfl))) (fun _ _ _ _ _ => (pts_one (pt_cmpR op_ne (pv 2) (pe_gi rfl g_NONE) (nomark _)))) (fun _ _ _ _ _ => (pv 2))) pa_nil) (pk_cons (pe_gi rfl g_NONE) pk_nil)))), ?_⟩
  refine ⟨_, rfl, r, A.CRound, R.dx, _, _, rfl, hR.ins, T.c_Round, T.n_Round_attempts, rF_attempts s R, _, rfl, R.att, .ref a, rfl, hg, a, rfl, ⟨_, SqL.of ha⟩, fun D nD => ?_⟩
  refine lc_list (K := K) (a := a) (xs := ((s.triesOf i).map Kg83.opt).map V.int) (fun j H' => Same H H' ∧ H' D = some (.lst (((((s.triesOf i).map Kg83.opt).take j).filter fun z => !decide (z = -1)).map V.int))) ⟨Same.new nD, upd_same⟩ (fun j H' _ ⟨s1, _⟩ => SqL.of (s1 _ _ ha)) ?_ ?_
  · rintro j x H1 hx ⟨s1, hD⟩
    obtain ⟨z, hz, rfl⟩ := map_at hx
    refine ⟨rfl, _, rfl, rfl, _, rfl, ?_⟩
    rw [neB]
    have lt : (((((s.triesOf i).map Kg83.opt).take j).filter fun z => !decide (z = -1)).map V.int).length < sizeLine := by
      rw [List.length_map, sizeLine_eq]
      have q1 := List.length_filter_le (fun z : Int => !decide (z = -1)) (((s.triesOf i).map Kg83.opt).take j)
      rw [List.length_take, List.length_map] at q1
      omega
    by_cases hm : z = -1
    · refine ifF (by rw [decide_eq_true hm]; rfl) ⟨s1, ?_⟩
      rw [hD, take_more hz, List.filter_append, List.filter_cons_of_neg (by rw [decide_eq_true hm]; decide), List.filter_nil, List.append_nil]
    · refine ifT (by rw [decide_eq_false hm]; rfl) ⟨_, rfl, _, hD, lt, fun b o e => ?_, ?_⟩
      · rw [upd_ne (ne_of_none e nD)]
        exact s1 _ _ e
      · rw [upd_same, take_more hz, List.filter_append, List.map_append, List.filter_cons_of_pos (by rw [decide_eq_false hm]; rfl)]
        rfl
  · rintro H1 ⟨s1, hD⟩
    rw [List.length_map, List.take_length, opt_filter] at hD
    have q : Q (.int (Kg83.opt (Kg83.least (s.triesOf i)))) H1 := k _ s1
    refine ⟨D, _, .int (-1), rfl, rfl, SqL.of hD, fun e => ?_, fun m h1 h2 => ?_⟩
    · rw [best_none (List.map_eq_nil_iff.mp e)] at q
      exact q
    · rw [best_some h1 h2] at q
      exact q
/-! result -/
def spResult (A : Ads) : Sp := spR A fun s i => tI (Kg83.result s.kind (s.triesOf i))
theorem sc_Round_result : FnScope ["self", "member", "some"] ["self", "member"] (defScope s_Round_result) := ⟨rfl, rfl, rfl, by decide +kernel, rfl, by decide +kernel, by decide +kernel⟩
theorem ok_result (T : Txt K mg A) : Has P w K mg base CX0 3 A.Round_result ["self", "member"] (spResult A) := by
  refine T.f_Round_result.ok sc_Round_result (fun vs H Q E h => ?_) (fun cdv Ar outer s0 H vs Q E hr h => ?_)
  · obtain ⟨_, _, _, _, rfl, _⟩ := h
    rfl
  obtain ⟨r, R, s, i, rfl, hR, hi, k⟩ := h
  obtain ⟨_, a, _, _, hg, ha⟩ := hR.get hi
  have G_average := ok_average (P := P) (w := w) (base := base) T
  have G_third := ok_third (P := P) (w := w) (base := base) T
  have G_best := ok_best (P := P) (w := w) (base := base) T
  have k' : ∀ H', Same H H' → Q (.int (Kg83.opt (Kg83.result s.kind (s.triesOf i)))) H' := k
  have len5 := hR.wf.len5 i
  have lenk := hR.wf.len i
  obtain ⟨_, g_NONE⟩ := T.i_NONE
  obtain ⟨_, g_BEST⟩ := T.i_BEST
  obtain ⟨_, g_AVERAGE⟩ := T.i_AVERAGE
  refine ⟨_, (pss_cons (ps_set (i := 2) sc_Round_result.nd rfl (Or.inl rfl) (pe_dget (hu_of hr) (pe_fld (pv 0) rfl) (pv 1) (fun _ _ => rfl)))
    (pss_cons (ps_if (pt_cmpR op_eq (pe_fld (pv 0) rfl) (pe_gi rfl g_AVERAGE) (nomark _)) (pss_one (ps_ret (pe_c G_average (hr.mono (by decide)) rfl T.g_average pass0 (pa_cons (pv 2) pa_nil)))) pss_nil)
    (pss_cons (ps_if (pt_cmpR op_lt (pe_callB call_len_seq (by rfl) T.b_len PySem.boot_len (pa_cons (pv 2) pa_nil)) pe_int (nomark _)) (pss_one (ps_ret (pe_gi rfl g_NONE))) pss_nil)
    (pss_cons (ps_if (pt_cmpR op_eq (pe_fld (pv 0) rfl) (pe_gi rfl g_BEST) (nomark _)) (pss_one (ps_ret (pe_m (pv 0) T.c_Round T.m_Round_best G_best (hr.mono (by decide)) pass0 (pa_cons (pv 1) pa_nil)))) pss_nil)
    (pss_cons (ps_if (pt_cmpR op_in_seq (pe_gi rfl g_NONE) (pv 2) (by rfl)) (pss_one (ps_ret (pe_gi rfl g_NONE))) pss_nil)
    (pss_one (ps_ret (pe_c G_third (hr.mono (by decide)) rfl T.g_third pass0 (pa_cons (pe_callB (cr_sum rfl) (by rfl) T.b_sum (by decide +kernel) (pa_cons (pv 2) pa_nil)) pa_nil))))))))), ?_⟩
  refine ⟨_, rfl, r, A.CRound, R.dx, _, _, rfl, hR.ins, T.c_Round, T.n_Round_attempts, rF_attempts s R, _, rfl, R.att, .ref a, rfl, hg, ?_⟩
  refine ⟨_, rfl, r, A.CRound, R.dx, _, _, rfl, hR.ins, T.c_Round, T.n_Round_kind, rF_kind s R, rfl, _, rfl, ?_⟩
  have ek := nI_eq (a := s.kind) (b := 0)
  by_cases k0 : s.kind = 0
  · refine ifT (by rw [show decide (nI s.kind = V.int 0) = decide (s.kind = 0) from ek, decide_eq_true k0]) ?_
    refine ⟨_, rfl, a, s.triesOf i, rfl, SqL.of ha, len5, fun H' s1 => ?_⟩
    have q := k' H' s1
    unfold Kg83.result at q
    rw [if_pos k0] at q
    exact q
  refine ifF (by rw [show decide (nI s.kind = V.int 0) = decide (s.kind = 0) from ek, decide_eq_false k0]) ?_
  have ha2 := ha
  rw [mapTI] at ha2
  have len3 : (s.triesOf i).length ≤ 3 := by
    unfold Kg83.attempts at lenk
    rw [if_neg k0] at lenk
    exact lenk
  refine ⟨_, rfl, a, _, rfl, .inl (SqL.of ha2), _, _, rfl, rfl, _, rfl, ?_⟩
  rw [List.length_map, List.length_map]
  by_cases c3 : (s.triesOf i).length < 3
  · refine dT (by omega) ?_
    have q := k' _ (Same.refl _)
    have e : Kg83.opt (Kg83.result s.kind (s.triesOf i)) = -1 := by
      unfold Kg83.result
      rw [if_neg k0]
      split
      · rw [if_neg (by omega)]
        rfl
      · exact mean_no (.inl c3)
    rw [e] at q
    exact q
  refine dF (by omega) ?_
  refine ⟨_, rfl, r, A.CRound, R.dx, _, _, rfl, hR.ins, T.c_Round, T.n_Round_kind, rF_kind s R, rfl, _, rfl, ?_⟩
  have e2 := nI_eq (a := s.kind) (b := 2)
  by_cases k2 : s.kind = 2
  · refine ifT (by rw [show decide (nI s.kind = V.int 2) = decide (s.kind = 2) from e2, decide_eq_true k2]) ?_
    refine ⟨_, rfl, r, R.dx, _, rfl, hR.ins, rF_best s R, _, rfl, r, R, s, i, rfl, hR, hi, fun H' s1 => ?_⟩
    have q := k' H' s1
    unfold Kg83.result at q
    rw [if_neg k0, if_pos k2, if_pos (by omega)] at q
    exact q
  refine ifF (by rw [show decide (nI s.kind = V.int 2) = decide (s.kind = 2) from e2, decide_eq_false k2]) ?_
  have q := k' _ (Same.refl _)
  unfold Kg83.result at q
  rw [if_neg k0, if_neg k2] at q
  refine ⟨_, rfl, a, _, rfl, .inl (SqL.of ha2), rfl, flat_ints _, _, rfl, ?_⟩
  rw [if_neg Bool.false_ne_true, inV_ints]
  by_cases cn : (-1 : Int) ∈ (s.triesOf i).map Kg83.opt
  · refine dT cn ?_
    rw [mean_no (.inr cn)] at q
    exact q
  refine dF cn ⟨_, rfl, a, _, rfl, SqL.of ha2, _, rfl, ?_⟩
  rw [mean_yes (by omega) cn] at q
  exact q
/-! behind, rank -/
def bz (z : Int) : PyData := .tuple [.int (if z = -1 then 1 else 0), .int z]
def spBehind : Sp := fun vs H Q _ => ∃ z : Int, vs = [.int z] ∧ ∀ p, H p = none → Q (.ref p) (upd H p (.tup [.int (if z = -1 then 1 else 0), .int z]))
theorem sc_behind : FnScope ["number"] ["number"] (defScope s_behind) := ⟨rfl, rfl, rfl, by decide +kernel, rfl, by decide +kernel, by decide +kernel⟩
theorem ok_behind (T : Txt K mg A) : Has P w K mg base CX0 1 A.behind ["number"] spBehind := by
  refine T.f_behind.ok sc_behind (fun vs H Q E h => ?_) (fun cdv Ar outer s0 H vs Q E hr h => ?_)
  · obtain ⟨_, rfl, _⟩ := h
    rfl
  obtain ⟨z, rfl, k⟩ := h
  obtain ⟨_, g_NONE⟩ := T.i_NONE
  refine ⟨_, (pss_one (ps_ret (pe_tup (pa_cons (pe_callTy call_int1 (by rfl) T.b_int (by decide +kernel) (pa_cons (pe_cmpR op_eq (pv 0) (pe_gi rfl g_NONE) (nomark _)) pa_nil)) (pa_cons (pv 0) pa_nil))))), ?_⟩
  refine ⟨_, rfl, rfl, .inr ⟨_, rfl, _, rfl, (by show 2 ≤ sizeLine; decide), fun p np => ?_⟩⟩
  have q := k p np
  by_cases hz : z = -1
  · rw [if_pos hz] at q
    rw [decide_eq_true (show V.int z = V.int (-1) by rw [hz])]
    exact q
  · rw [if_neg hz] at q
    rw [decide_eq_false (show ¬ V.int z = V.int (-1) from fun e => hz (by injection e))]
    exact q
/-- what somebody is ordered by -/
def rankZ (s : Kg83.State) (i : Nat) : List Int := if s.kind = 2 then [Kg83.opt (Kg83.least (s.triesOf i))] else [Kg83.opt (Kg83.result s.kind (s.triesOf i)), Kg83.opt (Kg83.least (s.triesOf i))]
def rankD (s : Kg83.State) (i : Nat) : PyData := .list ((rankZ s i).map bz)
def spRank (K : PySem.W.Frag) (A : Ads) : Sp := fun vs H Q _ => ∃ (r : Addr) (R : RA) (s : Kg83.State) (i : Nat), vs = [.ref r, nI i] ∧ RoundAt A H r R s ∧ i ∈ s.inIt ∧ ∀ H' p, Same H H' → Dp K H' (.ref p) (rankD s i) → Q (.ref p) H'
theorem dp_bz {H : Hp} {t : Addr} {z : Int} (h : H t = some (.tup [.int (if z = -1 then 1 else 0), .int z])) : Dp K H (.ref t) (bz z) := .tup (SqT.of h) (.cons (.int _) (.cons (.int _) .nil))
theorem sc_Round_rank : FnScope ["self", "member", "best"] ["self", "member"] (defScope s_Round_rank) := ⟨rfl, rfl, rfl, by decide +kernel, rfl, by decide +kernel, by decide +kernel⟩
theorem ok_rank (T : Txt K mg A) : Has P w K mg base CX0 4 A.Round_rank ["self", "member"] (spRank K A) := by
  refine T.f_Round_rank.ok sc_Round_rank (fun vs H Q E h => ?_) (fun cdv Ar outer s0 H vs Q E hr h => ?_)
  · obtain ⟨_, _, _, _, rfl, _⟩ := h
    rfl
  obtain ⟨r, R, s, i, rfl, hR, hi, k⟩ := h
  have G_result := ok_result (P := P) (w := w) (base := base) T
  have G_behind := ok_behind (P := P) (w := w) (base := base) T
  have G_best := ok_best (P := P) (w := w) (base := base) T
  obtain ⟨_, g_BEST⟩ := T.i_BEST
  refine ⟨_, (pss_cons (ps_set (i := 2) sc_Round_rank.nd rfl (Or.inl rfl) (pe_m (pv 0) T.c_Round T.m_Round_best G_best (hr.mono (by decide)) pass0 (pa_cons (pv 1) pa_nil)))
    (pss_cons (ps_if (pt_cmpR op_eq (pe_fld (pv 0) rfl) (pe_gi rfl g_BEST) (nomark _)) (pss_one (ps_ret (pe_lst (pa_cons (pe_c G_behind (hr.mono (by decide)) rfl T.g_behind pass0 (pa_cons (pv 2) pa_nil)) pa_nil)))) pss_nil)
    (pss_one (ps_ret (pe_lst (pa_cons (pe_c G_behind (hr.mono (by decide)) rfl T.g_behind pass0 (pa_cons (pe_m (pv 0) T.c_Round T.m_Round_result G_result (hr.mono (by decide)) pass0 (pa_cons (pv 1) pa_nil)) pa_nil)) (pa_cons (pe_c G_behind (hr.mono (by decide)) rfl T.g_behind pass0 (pa_cons (pv 2) pa_nil)) pa_nil))))))), ?_⟩
  refine ⟨_, rfl, r, R.dx, _, rfl, hR.ins, rF_best s R, _, rfl, r, R, s, i, rfl, hR, hi, fun H1 s1 => ?_⟩
  have hR1 := hR.same s1
  refine ⟨_, rfl, r, A.CRound, R.dx, _, _, rfl, hR1.ins, T.c_Round, T.n_Round_kind, rF_kind s R, rfl, _, rfl, ?_⟩
  have e2 := nI_eq (a := s.kind) (b := 2)
  by_cases k2 : s.kind = 2
  · refine ifT (by rw [show decide (nI s.kind = V.int 2) = decide (s.kind = 2) from e2, decide_eq_true k2]) ?_
    refine ⟨_, rfl, _, rfl, fun t nt => ⟨(by show 1 ≤ sizeLine; decide), fun p np => ?_⟩⟩
    refine k _ _ ((s1.trans (Same.new nt)).trans (Same.new np)) ?_
    unfold rankD rankZ
    rw [if_pos k2]
    exact .lst (SqL.of upd_same) (.cons (dp_bz ((Same.new np) _ _ upd_same)) .nil)
  refine ifF (by rw [show decide (nI s.kind = V.int 2) = decide (s.kind = 2) from e2, decide_eq_false k2]) ?_
  refine ⟨_, rfl, r, R.dx, _, rfl, hR1.ins, rF_result s R, _, rfl, r, R, s, i, rfl, hR1, hi, fun H2 s2 => ?_⟩
  refine ⟨_, rfl, fun t nt => ?_⟩
  refine ⟨_, rfl, _, rfl, fun t2 nt2 => ⟨(by show 2 ≤ sizeLine; decide), fun p np => ?_⟩⟩
  have s4 := Same.new (o := .tup [.int (if Kg83.opt (Kg83.least (s.triesOf i)) = -1 then 1 else 0), .int (Kg83.opt (Kg83.least (s.triesOf i)))]) nt2
  have s5 := Same.new (o := .lst [.ref t, .ref t2]) np
  refine k _ _ (((s1.trans s2).trans (Same.new nt)).trans (s4.trans s5)) ?_
  unfold rankD rankZ
  rw [if_neg k2]
  exact .lst (SqL.of upd_same) (.cons (dp_bz (s5 _ _ (s4 _ _ upd_same))) (.cons (dp_bz (s5 _ _ upd_same)) .nil))
end
end Cm
namespace Cm
open PySem PySem.Spec PyProof.Rows L2
def tt_over (K : PySem.W.Frag) (A : Ads) : TT := tTest (tOp (rI0 fun i j => .bl (decide (i < j))) (tCB (rLen K) (tCons (tDGet (tFld K (tVar 0) "attempts") (tVar 1)) tNil)) (tMt A.CRound "may_have" (spMay A) E0 (tVar 0) (tCons (tVar 1) tNil)))
section
variable {P : Program} {w : World} {K : PySem.W.Frag} {mg : Str → Option Value} {base : Heap} {A : Ads}
/-! timed -/
def spTimed (A : Ads) : Sp := fun vs H Q _ => ∃ (r : Addr) (R : RA) (s : Kg83.State) (t p : Nat), vs = [.ref r, nI t, nI p] ∧ RoundAt A H r R s ∧ Q (tI (if s.limit < t + 200 * p then none else some (t + 200 * p))) H
theorem sc_Round_timed : FnScope ["self", "hundredths", "penalties", "found"] ["self", "hundredths", "penalties"] (defScope s_Round_timed) := ⟨rfl, rfl, rfl, by decide +kernel, rfl, by decide +kernel, by decide +kernel⟩
theorem ok_timed (T : Txt K mg A) : Has P w K mg base CX0 1 A.Round_timed ["self", "hundredths", "penalties"] (spTimed A) := by
  refine T.f_Round_timed.ok sc_Round_timed (fun vs H Q E h => ?_) (fun cdv Ar outer s0 H vs Q E hr h => ?_)
  · obtain ⟨_, _, _, _, _, rfl, _⟩ := h
    rfl
  obtain ⟨r, R, s, t, p, rfl, hR, k⟩ := h
  obtain ⟨_, g_NONE⟩ := T.i_NONE
  obtain ⟨_, g_PENALTY⟩ := T.i_PENALTY
  refine ⟨_, (pss_cons (ps_set (i := 3) sc_Round_timed.nd rfl (Or.inl rfl) (pe_op op_add (pv 1) (pe_op op_mul (pe_gi rfl g_PENALTY) (pv 2))))
    (pss_cons (ps_if (pt_cmpR op_gt (pv 3) (pe_fld (pv 0) rfl) (nomark _)) (pss_one (ps_ret (pe_gi rfl g_NONE))) pss_nil)
    (pss_one (ps_ret (pv 3))))), ?_⟩
  refine ⟨_, rfl, _, rfl, _, _, rfl, rfl, .inl ⟨by decide, by decide⟩, _, _, rfl, rfl, ?_⟩
  refine ⟨_, rfl, _, rfl, r, A.CRound, R.dx, _, _, rfl, hR.ins, T.c_Round, T.n_Round_limit, rF_limit s R, _, _, rfl, rfl, _, rfl, ?_⟩
  by_cases c : s.limit < t + 200 * p
  · rw [if_pos c] at k
    exact dT (by omega) k
  · rw [if_neg c] at k
    refine dF (by omega) ⟨_, rfl, ?_⟩
    have e : (t : Int) + 200 * (p : Int) = ((t + 200 * p : Nat) : Int) := by omega
    show Q (.int ((t : Int) + 200 * (p : Int))) H
    rw [e]
    exact k
/-! solution_count -/
def spSolCount (K : PySem.W.Frag) : Sp := fun vs H Q _ => ∃ (m : Addr) (l : List Int) (b : Bool), vs = [.ref m, .bl b] ∧ SqL K H m (l.map V.int) ∧ Q (tI (if l.length ≤ 80 ∧ b = true then some (100 * l.length) else none)) H
theorem sc_solution_count : FnScope ["moves", "solves"] ["moves", "solves"] (defScope s_solution_count) := ⟨rfl, rfl, rfl, by decide +kernel, rfl, by decide +kernel, by decide +kernel⟩
theorem ok_solution_count (T : Txt K mg A) : Has P w K mg base CX0 1 A.solution_count ["moves", "solves"] (spSolCount K) := by
  refine T.f_solution_count.ok sc_solution_count (fun vs H Q E h => ?_) (fun cdv Ar outer s0 H vs Q E hr h => ?_)
  · obtain ⟨_, _, _, rfl, _⟩ := h
    rfl
  obtain ⟨m, l, b, rfl, hm, k⟩ := h
  obtain ⟨_, g_FOR_MOVE⟩ := T.i_FOR_MOVE
  obtain ⟨_, g_MOST_MOVES_rounds⟩ := T.i_MOST_MOVES_rounds
  obtain ⟨_, g_NONE⟩ := T.i_NONE
  refine ⟨_, (pss_cons (ps_if (PW.pt (pw_or (pt_cmpR op_gt (pe_callB call_len_seq (by rfl) T.b_len PySem.boot_len (pa_cons (pv 0) pa_nil)) (pe_gi rfl g_MOST_MOVES_rounds) (nomark _)) (pw_or1 (pt_not (pt_val (pv 1)))))) (pss_one (ps_ret (pe_gi rfl g_NONE))) pss_nil)
    (pss_one (ps_ret (pe_op op_mul (pe_gi rfl g_FOR_MOVE) (pe_callB call_len_seq (by rfl) T.b_len PySem.boot_len (pa_cons (pv 0) pa_nil)))))), ?_⟩
  refine ⟨_, rfl, m, _, rfl, .inl hm, _, _, rfl, rfl, _, rfl, ?_⟩
  rw [List.length_map]
  by_cases c : l.length ≤ 80
  · refine dF (by omega) ⟨_, rfl, b, rfl, ?_⟩
    cases b with
    | true =>
      rw [if_pos ⟨c, rfl⟩] at k
      refine iteF ⟨_, rfl, m, _, rfl, .inl hm, _, _, rfl, rfl, .inl ⟨by decide, by decide⟩, ?_⟩
      rw [List.length_map]
      exact k
    | false =>
      rw [if_neg (by rintro ⟨_, z⟩; cases z)] at k
      exact iteT k
  · rw [if_neg (by rintro ⟨z, _⟩; exact c z)] at k
    exact dT (by omega) (iteT k)
/-! is_over -/
def spOver (A : Ads) : Sp := fun vs H Q _ => ∃ (r : Addr) (R : RA) (s : Kg83.State), vs = [.ref r] ∧ RoundAt A H r R s ∧ ∀ H', Same H H' → Q (.bl s.over) H'
def still (s : Kg83.State) (i : Nat) : Bool := decide ((s.triesOf i).length < s.allowed i)
theorem over_eq (s : Kg83.State) : (s.inIt.filter (still s)).isEmpty = s.over := by
  unfold Kg83.State.over
  rw [Bool.eq_iff_iff, List.isEmpty_iff, List.filter_eq_nil_iff, List.all_eq_true]
  refine ⟨fun h i hi => ?_, fun h i hi => ?_⟩
  · have q := h i hi
    unfold still at q
    simp at q ⊢
    exact q
  · have q := h i hi
    unfold still
    simp at q ⊢
    exact q
theorem mapNI (l : List Nat) : l.map nI = (l.map fun (n : Nat) => (n : Int)).map V.int := by
  rw [List.map_map]
  rfl
theorem dp_nats {H : Hp} (l : List Nat) : DpAll K H (l.map nI) ((l.map fun (n : Nat) => (n : Int)).map PyData.int) := by
  rw [mapNI]
  exact dp_ints _
theorem sc_Round_is_over : FnScope ["self", "one"] ["self"] (defScope s_Round_is_over) := ⟨rfl, rfl, rfl, by decide +kernel, rfl, by decide +kernel, by decide +kernel⟩
theorem ok_is_over (T : Txt K mg A) : Has P w K mg base CX0 2 A.Round_is_over ["self"] (spOver A) := by
  refine T.f_Round_is_over.ok sc_Round_is_over (fun vs H Q E h => ?_) (fun cdv Ar outer s0 H vs Q E hr h => ?_)
  · obtain ⟨_, _, _, rfl, _⟩ := h
    rfl
  obtain ⟨r, R, s, rfl, hR, k⟩ := h
  have G_may_have := ok_may_have (P := P) (w := w) (base := base) T
  refine ⟨_, (pss_one (ps_ret (pe_cmpR (op_eqD hr.units) (pe_lc (own := [("one", 1)]) (g := gName 1) (tt := tt_over K A) rfl sc_Round_is_over.nd (pi_list (pe_fld (pv 0) rfl)) (blkOk_by (N := ["self", "one"]) (sc := defScope s_Round_is_over) (by decide +kernel)) (fun _ _ _ _ _ => (pg_name (i := 1) sc_Round_is_over.nd rfl (Or.inl rfl))) (fun _ _ _ _ _ => (pts_one (pt_cmpR op_lt (pe_callB call_len_seq (by rfl) T.b_len PySem.boot_len (pa_cons (pe_dget (hu_of hr) (pe_fld (pv 0) rfl) (pv 1) (fun _ _ => rfl)) pa_nil)) (pe_m (pv 0) T.c_Round T.m_Round_may_have G_may_have (hr.mono (by decide)) pass0 (pa_cons (pv 1) pa_nil)) (nomark _)))) (fun _ _ _ _ _ => (pv 1))) (pe_lst pa_nil) (nomark _)))), ?_⟩
  refine ⟨_, rfl, r, A.CRound, R.dx, _, _, rfl, hR.ins, T.c_Round, T.n_Round_members, rF_members s R, R.mem, rfl, ⟨_, SqL.of hR.mem⟩, fun D nD => ?_⟩
  refine lc_list (K := K) (a := R.mem) (xs := s.inIt.map nI) (fun j H' => Same H H' ∧ H' D = some (.lst (((s.inIt.take j).filter (still s)).map nI))) ⟨Same.new nD, upd_same⟩ (fun j H' _ ⟨s1, _⟩ => SqL.of (s1 _ _ hR.mem)) ?_ ?_
  · rintro j x H1 hx ⟨s1, hD⟩
    obtain ⟨i, hi, rfl⟩ := map_at hx
    have hm := List.mem_of_getElem? hi
    have hR1 := hR.same s1
    obtain ⟨_, a, _, _, hg, ha⟩ := hR1.get hm
    refine ⟨rfl, _, rfl, r, A.CRound, R.dx, _, _, rfl, hR1.ins, T.c_Round, T.n_Round_attempts, rF_attempts s R, _, rfl, R.att, .ref a, rfl, hg, a, _, rfl, .inl (SqL.of ha), ?_⟩
    refine ⟨_, rfl, r, R.dx, _, rfl, hR1.ins, rF_may s R, _, rfl, r, R, s, i, rfl, hR1, hm, fun H2 s2 => ⟨_, _, rfl, rfl, _, rfl, ?_⟩⟩
    rw [List.length_map]
    have hD2 := s2 _ _ hD
    have lt : (((s.inIt.take j).filter (still s)).map nI).length < sizeLine := by
      rw [List.length_map, sizeLine_eq]
      have q1 := List.length_filter_le (still s) (s.inIt.take j)
      rw [List.length_take] at q1
      have := hR.wf.il
      omega
    by_cases c : (s.triesOf i).length < s.allowed i
    · refine dT (by omega) ⟨_, rfl, _, hD2, lt, fun b o e => ?_, ?_⟩
      · rw [upd_ne (ne_of_none e nD)]
        exact s2 _ _ (s1 _ _ e)
      · rw [upd_same, take_more hi, List.filter_append, List.map_append, List.filter_cons_of_pos (by unfold still; exact decide_eq_true c)]
        rfl
    · refine dF (by omega) ⟨s1.trans s2, ?_⟩
      rw [hD2, take_more hi, List.filter_append, List.filter_cons_of_neg (by unfold still; rw [decide_eq_false c]; decide), List.filter_nil, List.append_nil]
  · rintro H1 ⟨s1, hD⟩
    rw [List.length_map, List.take_length] at hD
    refine ⟨(by show 0 ≤ sizeLine; decide), fun p np => ?_⟩
    have s2 : Same H1 (upd H1 p (.lst [])) := Same.new np
    refine ⟨_, .list [], .lst (SqL.of (s2 _ _ hD)) (dp_nats _), .lst (SqL.of upd_same) .nil, ints_shaped _, by decide, ?_⟩
    have q := k _ (s1.trans s2)
    rw [eqv_nil]
    rw [← over_eq] at q
    have e : ((s.inIt.filter (still s)).map fun (n : Nat) => (n : Int)).isEmpty = (s.inIt.filter (still s)).isEmpty := by
      rw [List.isEmpty_map]
    rw [e]
    exact q
theorem upd_free {H : Hp} {a b : Addr} {o : HO} (h : upd H a o b = none) : b ≠ a ∧ H b = none := by
  by_cases e : b = a
  · rw [e, upd_same] at h
    cases h
  · rw [upd_ne e] at h
    exact ⟨e, h⟩
/-! Round(..) -/
/-- a fresh round's state -/
def freshS (s : Kg83.State) (k l c : Nat) (who : List Nat) (n : Nat) : Kg83.State := { s with kind := k, limit := l, cutoff := c, scrambles := [], inIt := who, tries := List.replicate s.number [], round := n }
theorem fresh_tries (s : Kg83.State) (k l c : Nat) (who : List Nat) (n i : Nat) : (freshS s k l c who n).triesOf i = [] := by
  unfold freshS Kg83.State.triesOf
  show (List.replicate s.number []).getD i [] = []
  rw [List.getD_eq_getElem?_getD, List.getElem?_replicate]
  split <;> rfl
def spRoundI (A : Ads) : Sp := fun vs H Q _ => ∃ (p dx m : Addr) (k l c : Nat) (who : List Nat), vs = [.ref p, nI k, nI l, nI c, .ref m] ∧ H p = some (.ins A.CRound dx []) ∧ H m = some (.lst (who.map nI)) ∧ who.Nodup ∧ who.length ≤ 1000 ∧
  ∀ (H' : Hp) (att sc : Addr) (as : List Addr), (∀ b o, H b = some o → b ≠ p → H' b = some o) → H att = none → H sc = none → (∀ a ∈ as, H a = none) →
    H' p = some (.ins A.CRound dx [("kind", nI k), ("limit", nI l), ("cutoff", nI c), ("members", .ref m), ("attempts", .ref att), ("scrambles", .ref sc)]) → H' att = some (.dK (attK who as)) → as.length = who.length → (∀ a ∈ as, H' a = some (.lst [])) → H' sc = some (.lst []) → (sc :: as).Nodup → Q .non H'
theorem attK_snoc {is : List Nat} {as : List Addr} {i : Nat} {a : Addr} (hl : as.length = is.length) : attK (is ++ [i]) (as ++ [a]) = attK is as ++ [(Sum.inl (i : Int), V.ref a)] := by
  unfold attK
  rw [List.zip_append hl.symm, List.map_append]
  rfl
theorem attK_none : ∀ {is : List Nat} {as : List Addr} {i : Nat}, i ∉ is → valV (attK is as) (Sum.inl (i : Int)) = none
  | [], _, _, _ => rfl
  | _ :: _, [], _, _ => rfl
  | x :: is, y :: as, i, h => by
    have q := attK_none (as := as) (fun z => h (List.mem_cons_of_mem _ z))
    exact (valV_neg (p := (Sum.inl (x : Int), V.ref y)) (r := attK is as) (k := Sum.inl (i : Int)) fun e => h (by injection e with e; rw [show i = x by omega]; exact List.mem_cons_self)).trans q
theorem sc_Round_init : FnScope ["self", "kind", "limit", "cutoff", "members", "member"] ["self", "kind", "limit", "cutoff", "members"] (defScope s_Round_init) := ⟨rfl, rfl, rfl, by decide +kernel, rfl, by decide +kernel, by decide +kernel⟩
theorem ok_Round_init (T : Txt K mg A) : Has P w K mg base CX0 1 A.Round_init ["self", "kind", "limit", "cutoff", "members"] (spRoundI A) := by
  refine T.f_Round_init.ok sc_Round_init (fun vs H Q E h => ?_) (fun cdv Ar outer s0 H vs Q E hr h => ?_)
  · obtain ⟨_, _, _, _, _, _, _, rfl, _⟩ := h
    rfl
  obtain ⟨p, dx, m, kk, l, c, who, rfl, hp, hm, hnd, h1000, k⟩ := h
  refine ⟨_, (pss_cons (ps_fld (pv 0) (pv 1) rfl)
    (pss_cons (ps_fld (pv 0) (pv 2) rfl)
    (pss_cons (ps_fld (pv 0) (pv 3) rfl)
    (pss_cons (ps_fld (pv 0) (pv 4) rfl)
    (pss_cons (ps_fld (pv 0) pe_dnewK rfl)
    (pss_cons (ps_fld (pv 0) (pe_lst pa_nil) rfl)
    (pss_one (ps_for PassesOwn.never rfl (pi_list (pv 4)) (pg_name (i := 5) sc_Round_init.nd rfl (Or.inl rfl)) (pss_one (ps_dput (hu_of hr) (pe_fld (pv 0) rfl) (pv 5) (pe_lst pa_nil) rfl)))))))))), ?_⟩
  refine ⟨_, rfl, _, rfl, p, A.CRound, dx, _, rfl, hp, T.c_Round, T.n_Round_kind, (by show 0 < 1000; decide), ?_⟩
  refine ⟨_, rfl, _, rfl, p, A.CRound, dx, _, rfl, upd_same, T.c_Round, T.n_Round_limit, (by show 1 < 1000; decide), ?_⟩
  refine ⟨_, rfl, _, rfl, p, A.CRound, dx, _, rfl, upd_same, T.c_Round, T.n_Round_cutoff, (by show 2 < 1000; decide), ?_⟩
  refine ⟨_, rfl, _, rfl, p, A.CRound, dx, _, rfl, upd_same, T.c_Round, T.n_Round_members, (by show 3 < 1000; decide), ?_⟩
  rw [upd_upd, upd_upd, upd_upd]
  have e4 : putF "members" (.ref m) (putF "cutoff" (nI c) (putF "limit" (nI l) (putF "kind" (nI kk) []))) = ([("kind", nI kk), ("limit", nI l), ("cutoff", nI c), ("members", .ref m)] : List (Str × V)) := rfl
  rw [e4]
  refine fun att natt => ⟨_, rfl, p, A.CRound, dx, _, rfl, (by rw [upd_ne (fun z => (upd_free natt).1 z.symm)]; exact upd_same), T.c_Round, T.n_Round_attempts, (by show 4 < 1000; decide), ?_⟩
  obtain ⟨ap, aH⟩ := upd_free natt
  refine ⟨(by show 0 ≤ sizeLine; decide), fun sc nsc => ⟨_, rfl, p, A.CRound, dx, _, rfl, (by rw [upd_ne (fun z => (upd_free nsc).1 z.symm)]; exact upd_same), T.c_Round, T.n_Round_scrambles, (by show 5 < 1000; decide), ?_⟩⟩
  obtain ⟨sp, nsc2⟩ := upd_free nsc
  obtain ⟨sa, nsc3⟩ := upd_free nsc2
  obtain ⟨_, sH⟩ := upd_free nsc3
  have e6 : putF "scrambles" (.ref sc) (putF "attempts" (.ref att) [("kind", nI kk), ("limit", nI l), ("cutoff", nI c), ("members", .ref m)]) = ([("kind", nI kk), ("limit", nI l), ("cutoff", nI c), ("members", .ref m), ("attempts", .ref att), ("scrambles", .ref sc)] : List (Str × V)) := rfl
  rw [e6]
  have mp : m ≠ p := ne_of hm hp (by intro z; cases z)
  have keep0 : ∀ b o, H b = some o → b ≠ p → (upd (upd (upd (upd (upd H p (.ins A.CRound dx [("kind", nI kk), ("limit", nI l), ("cutoff", nI c), ("members", .ref m)])) att (.dK [])) p (.ins A.CRound dx (putF "attempts" (.ref att) [("kind", nI kk), ("limit", nI l), ("cutoff", nI c), ("members", .ref m)]))) sc (.lst [])) p
      (.ins A.CRound dx [("kind", nI kk), ("limit", nI l), ("cutoff", nI c), ("members", .ref m), ("attempts", .ref att), ("scrambles", .ref sc)])) b = some o := fun b o e hb => by
    rw [upd_ne hb, upd_ne (ne_of_none e sH), upd_ne hb, upd_ne (ne_of_none e aH), upd_ne hb]
    exact e
  refine ⟨_, rfl, m, rfl, ⟨_, SqL.of (keep0 _ _ hm mp)⟩, for_list (K := K) (a := m) (xs := who.map nI) (fun j σ H' => ∃ mv as, σ = [some (.ref p), some (nI kk), some (nI l), some (nI c), some (.ref m), mv] ∧
    H' p = some (.ins A.CRound dx [("kind", nI kk), ("limit", nI l), ("cutoff", nI c), ("members", .ref m), ("attempts", .ref att), ("scrambles", .ref sc)]) ∧ H' att = some (.dK (attK (who.take j) as)) ∧ as.length = (who.take j).length ∧ H' sc = some (.lst []) ∧
    (∀ a ∈ as, H' a = some (.lst []) ∧ H a = none) ∧ (sc :: as).Nodup ∧ ∀ b o, H b = some o → b ≠ p → H' b = some o) ⟨_, [], rfl, upd_same, ?_, rfl, ?_, fun a z => absurd z (by simp), by simp, keep0⟩ (fun j σ H' _ ⟨_, _, _, _, _, _, _, _, _, kp⟩ => SqL.of (kp _ _ hm mp)) ?_ ?_⟩
  · rw [upd_ne ap, upd_ne (Ne.symm sa), upd_ne ap, upd_same]
    rfl
  · rw [upd_ne sp, upd_same]
  · rintro j x σ H1 hx ⟨mv, as, rfl, h1, h2, h3, h4, h5, h6, h7⟩
    obtain ⟨i, hi, rfl⟩ := map_at hx
    refine ⟨(by show 0 ≤ sizeLine; decide), fun a na => ?_⟩
    have s1 : Same H1 (upd H1 a (.lst [])) := Same.new na
    have hni : i ∉ who.take j := fun z => by
      obtain ⟨n, hn⟩ := List.mem_iff_getElem?.mp z
      rw [List.getElem?_take] at hn
      split at hn
      · rename_i hlt
        exact absurd (nd_ix hnd hn hi) (by omega)
      · cases hn
    refine ⟨_, rfl, p, A.CRound, dx, _, _, rfl, s1 _ _ h1, T.c_Round, T.n_Round_attempts, rfl, _, rfl, att, _, rfl, DPut.k (k := Sum.inl (i : Int)) (s1 _ _ h2) ?_, ?_⟩
    · unfold attK
      rw [List.length_map, List.length_zip, List.length_take, sizeLine_eq]
      omega
    rw [putK_new _ (attK_none hni), ← attK_snoc h3, ← take_more hi]
    have aat : ∀ b, upd H1 a (.lst []) b = some (.lst []) → b ≠ att := fun b z => ne_of z (s1 _ _ h2) (by intro z; cases z)
    have pat : p ≠ att := ne_of (s1 _ _ h1) (s1 _ _ h2) (by intro z; cases z)
    have afree : H a = none := by
      cases q : H a with
      | none => rfl
      | some o =>
        by_cases hap : a = p
        · rw [hap, h1] at na
          cases na
        · rw [h7 a o q hap] at na
          cases na
    refine ⟨_, as ++ [a], rfl, ?_, upd_same, ?_, ?_, fun b hb => ?_, ?_, fun b o e hb => ?_⟩
    · rw [upd_ne pat]
      exact s1 _ _ h1
    · rw [List.length_append, h3, take_more hi, List.length_append]
      rfl
    · rw [upd_ne (aat _ (s1 _ _ h4))]
      exact s1 _ _ h4
    · rcases List.mem_append.mp hb with z | z
      · rw [upd_ne (aat _ (s1 _ _ (h5 b z).1))]
        exact ⟨s1 _ _ (h5 b z).1, (h5 b z).2⟩
      · rw [List.mem_singleton.mp z, upd_ne (aat _ upd_same)]
        exact ⟨upd_same, afree⟩
    · have e : sc :: (as ++ [a]) = (sc :: as) ++ [a] := rfl
      rw [e]
      refine nd_snoc h6 fun z => ?_
      rcases List.mem_cons.mp z with z | z
      · rw [z, h4] at na
        cases na
      · rw [(h5 a z).1] at na
        cases na
    · rw [upd_ne (ne_of_none e aH)]
      exact s1 _ _ (h7 b o e hb)
  · rintro σ H1 ⟨mv, as, rfl, h1, h2, h3, h4, h5, h6, h7⟩
    rw [List.length_map, List.take_length] at h2 h3
    exact k H1 att sc as h7 aH sH (fun a ha => (h5 a ha).2) h1 h2 h3 (fun a ha => (h5 a ha).1) h4 h6
end
end Cm
namespace Cm
open PySem PySem.Spec PySem.Calls PyProof.Rows L2
section
variable {X : Cx} {pins : List (Addr × Obj)} {σ : L2.St} {H : Hp} {s : Shared}
/-- an untracked list of ours is tracked from now on -/
theorem adopt {a : Addr} {out : List V} {its : List Value} {c : Nat} (I : Inv X pins σ H s) (own : FpOk X pins H a) (hl : out.length ≤ sizeLine) (r : Vals out its) (e : s.heap.get? a = some (seqObj "list" its.toArray c)) : Inv X pins σ (upd H a (.lst out)) s := by
  obtain ⟨hn, f1, f2, f3, f4, f5⟩ := own
  have q := I.step (g' := s.gens) (d' := s.drawn) (t' := s.toks) (h' := s.heap) (H' := upd H a (.lst out)) (ch := [a]) (fun b hb => by rw [List.mem_singleton.mp hb]; exact ⟨f3, f1, f4, f5⟩) (fun b o _ _ _ e _ => e) (fun b o _ _ _ e _ => ⟨o.slots, e⟩)
    (fun b o hc e n => by rw [upd_ne (fun z => hc (by rw [z]; exact List.mem_singleton.mpr rfl))]; exact n) (fun b o _ e => ⟨o, e⟩) (fun b xs e => by rw [upd_ne (ne_of_none e hn)]; exact e) (fun b o u e => by rw [upd_ne (ne_of_none e hn)]; exact e)
    (fun b ps e => ⟨#[], by rw [upd_ne (ne_of_none e hn), e]; simp⟩) (fun m hm => hm) (fun b u q => ?_) I.bare
  · exact q
  · by_cases hb : b = a
    · subst hb
      rw [upd_same] at q
      cases q
      exact ⟨hl, its, c, r, e⟩
    · rw [upd_ne hb] at q
      exact (I.hok b u q).stay (fun _ _ _ z => z) (fun d z => by rw [upd_ne (ne_of_none z hn)]; exact z) fun d xs z => by rw [upd_ne (ne_of_none z hn)]; exact z
theorem reads_of (I : Inv X pins σ H s) : ∀ (ks : List V) (us : List Value) (due : List PyData), Vals ks us → DpAll X.K H ks due → PySem.W.EachIs (fun v k => ∃ as, Reads s.heap v k as) us due
  | [], _, _, r, d => by
    cases r
    cases d
    exact .nil
  | k :: ks, _, _, r, d => by
    cases r with
    | cons r1 r2 =>
      cases d with
      | cons d1 d2 => exact .cons (Dp.reads I _ _ _ d1 r1) (reads_of I ks _ _ r2 d2)
theorem dpAll_length {K : PySem.W.Frag} {H : Hp} : ∀ {vs : List V} {ds : List PyData}, DpAll K H vs ds → vs.length = ds.length
  | _, _, .nil => rfl
  | _, _, .cons _ b => by rw [List.length_cons, List.length_cons, dpAll_length b]
theorem dpAll_snoc {K : PySem.W.Frag} {H : Hp} {v : V} {d : PyData} : ∀ {vs : List V} {ds : List PyData}, DpAll K H vs ds → Dp K H v d → DpAll K H (vs ++ [v]) (ds ++ [d])
  | [], _, h, q => by
    cases h
    exact .cons q .nil
  | _ :: _, _, h, q => by
    cases h with
    | cons a b => exact .cons a (dpAll_snoc b q)
theorem vals_snoc {v : V} {u : Value} {vs : List V} {us : List Value} (h : Vals vs us) (r : RelV v u) : Vals (vs ++ [v]) (us ++ [u]) := h.append (.cons r .nil)
theorem fpMove {H' : Hp} {a : Addr} (f : FpOk X pins H a) (h : H' a = none) : FpOk X pins H' a := ⟨h, f.2⟩
/-! sorting by a def of the text's own: the list at L stands empty, the keys so far stand at B -/
structure Amid (X : Cx) (pins : List (Addr × Obj)) (σ : L2.St) (H0 : Hp) (L B : Addr) (ep : Nat) (due : List PyData) (s : Shared) (H : Hp) (got : Array Value) (cnt : Nat) (keys : List V) : Prop where
  inv : Inv X pins σ H s
  old : Same H0 H
  nL : H L = none
  nB : H B = none
  atB : s.heap.get? B = some (seqObj "list" got cnt)
  atL : s.heap.get? L = some (seqObj "list" #[] ep)
  rel : Vals keys got.toList
  data : DpAll X.K H keys due
theorem Amid.size {L B : Addr} {ep cnt : Nat} {due : List PyData} {H0 : Hp} {got : Array Value} {keys : List V} (a : Amid X pins σ H0 L B ep due s H got cnt keys) : got.size = due.length := by
  rw [← Array.length_toList, ← a.rel.length, dpAll_length a.data]
/-- f(v) for v with the key k -/
def KeyTurn (X : Cx) (pins : List (Addr × Obj)) (σ : L2.St) (H0 : Hp) (Ar : Around) (f v : Value) (k : PyData) : Prop := ∀ (more : List (Addr × Obj)) (H : Hp) (s : Shared), (∀ p ∈ pins, p ∈ more) → Inv X more σ H s → Same H0 H → wpAny (model X.prog X.w) Ar (call f [v]) (EP X more σ fun v' H2 => Same H H2 ∧ Dp X.K H2 v' k) (fun _ _ => False) s
/-- one key more -/
theorem Amid.key {L B : Addr} {ep cnt : Nat} {due : List PyData} {H0 : Hp} {got : Array Value} {keys : List V} {Ar : Around} {f v : Value} {k : PyData} {Q : Except Value Value → Shared → Prop} {E : Value → Shared → Prop} (a : Amid X pins σ H0 L B ep due s H got cnt keys) (oL : FpOk X pins H0 L) (oB : FpOk X pins H0 B) (hBL : B ≠ L)
    (turn : KeyTurn X pins σ H0 Ar f v k) (go : ∀ u s' H' v', s'.heap.get? B = some (seqObj "list" got cnt) → (∀ h', (∀ b o, b ≠ B → s'.heap.get? b = some o → h'.get? b = some o) → ∀ c2, h'.get? B = some (seqObj "list" (got.push u) c2) → Amid X pins σ H0 L B ep (due ++ [k]) { s' with heap := h' } H' (got.push u) c2 (keys ++ [v'])) → Q (.ok u) s') :
    wpAny (model X.prog X.w) Ar (call f [v]).attempt Q E s := by
  have two : ∀ b ∈ [L, B], FpOk X pins H b ∧ ∃ o, s.heap.get? b = some o ∧ ∀ v, o.data ≠ .cell v := fun b hb => by
    rcases List.mem_cons.mp hb with z | z
    · subst z
      exact ⟨fpMove oL a.nL, _, a.atL, by intro v z; cases z⟩
    · cases List.mem_singleton.mp z
      exact ⟨fpMove oB a.nB, _, a.atB, by intro v z; cases z⟩
  refine wpAny_attempt (wpAny_mono (turn _ H s (fun p hp => List.mem_append_left _ hp) (a.inv.pinned (fp := [L, B]) (fun b hb => (two b hb).1) fun b hb => (two b hb).2) a.old) (fun u s' fin => ?_) fun _ _ z => z.elim)
  obtain ⟨v', H', J, rv, up, dv⟩ := fin
  have pin : ∀ b o, b ∈ [L, B] → s.heap.get? b = some o → s'.heap.get? b = some o ∧ H' b = none := fun b o hb e =>
    let q := J.pin (b, o) (List.mem_append_right _ (List.mem_append_right _ (List.mem_filterMap.mpr ⟨b, hb, by rw [e]; rfl⟩)))
    ⟨q.1, q.2.1⟩
  obtain ⟨l1, l2⟩ := pin L _ (by simp) a.atL
  obtain ⟨b1, b2⟩ := pin B _ (by simp) a.atB
  refine go u s' H' v' b1 fun h' kp c2 eB => ⟨J.unpinned.turnedL (t' := s'.toks) (ch := [B]) (fun b o hb e => kp b o (fun z => hb (by rw [z]; simp)) e) (fun b hb => by rw [List.mem_singleton.mp hb]; exact fpMove oB b2), a.old.trans up, l2, b2, eB, kp _ _ hBL.symm l1, ?_, dpAll_snoc (DpAll.same up _ _ a.data) dv⟩
  rw [Array.toList_push]
  exact vals_snoc a.rel rv
open PySem.W in
/-- all keys told, the list gets its items in order -/
theorem Amid.ends {L B : Addr} {ep cnt : Nat} {due : List PyData} {H0 : Hp} {got : Array Value} {keys : List V} {Ar : Around} {its : List Value} {Q : PySem.Fin → Shared → Prop} {E : Value → Shared → Prop} (a : Amid X pins σ H0 L B ep due s H got cnt keys) (oL : FpOk X pins H0 L) (oB : FpOk X pins H0 B) (hBL : B ≠ L)
    (many : due.length = its.length) (small : its.length ≤ sizeLine) (alk : AllAlike due) (srt : Sortable due) (deep : ∀ d ∈ due, Ar.units + d.depth < cLine)
    (go : ∀ s' out c, Inv X pins σ H s' → s'.heap.get? L = some (seqObj "list" (List.toArray out) c) → KeyedOut false due its out → Q (.done (.ret .none)) s') :
    wpAny (model X.prog X.w) Ar (ksk_end L false its.toArray ep (.ref B) got) Q E s := by
  have rd := reads_of a.inv keys _ _ a.rel a.data
  refine keyH_end (κ := dataKind s.heap due) (h₁ := hideAll s.heap [B]) (fun b o _ q => of_hideAll [B] q) (hideAll_none [B] (by simp)) a.atB a.atL hBL (SortsAt.data rd alk srt deep) (a.size.trans many) small fun h' t' c kp eL => ?_
  refine go _ _ c (a.inv.turnedL (t' := t') (ch := [L, B]) (fun b o hb q => ?_) fun b hb => ?_) eL ⟨_, _, alk, rfl, rd⟩
  · exact kp b o (fun z => hb (by simp [z])) (hideAll_get [B] q fun z => hb (by simp [List.mem_singleton.mp z]))
  · rcases List.mem_cons.mp hb with z | z
    · exact z ▸ fpMove oL a.nL
    · exact List.mem_singleton.mp z ▸ fpMove oB a.nB
open PySem.W in
/-- the keys, one behind another -/
theorem Amid.walk {L B : Addr} {ep : Nat} {due : List PyData} {Ar : Around} {f : Value} {its : List Value} {Q : PySem.Fin → Shared → Prop} {E : Value → Shared → Prop} (a : Amid X pins σ H L B ep [] s H #[] 0 []) (oL : FpOk X pins H L) (oB : FpOk X pins H B) (hBL : B ≠ L)
    (many : due.length = its.length) (small : its.length ≤ sizeLine) (alk : AllAlike due) (srt : Sortable due) (deep : ∀ d ∈ due, Ar.units + d.depth < cLine) (turn : ∀ (i : Nat) v k, its[i]? = some v → due[i]? = some k → KeyTurn X pins σ H Ar f v k)
    (go : ∀ H' s' out c, Inv X pins σ H' s' → Same H H' → H' L = none → s'.heap.get? L = some (seqObj "list" (List.toArray out) c) → KeyedOut false due its out → Q (.done (.ret .none)) s') :
    wpAny (model X.prog X.w) Ar (ksk_rest L f false its.toArray ep (.ref B)) Q E s := by
  unfold ksk_rest
  refine wpAny_bind (wpAny_rule (wpAny_bind ?_))
  rw [List.forIn_toArray]
  refine ksk_fold (fun i s' => ∃ H' got cnt keys, Amid X pins σ H L B ep (due.take i) s' H' got cnt keys) its 0 s ⟨H, _, _, _, a⟩ (fun j v s' hv st => ?_) fun s' st => ?_
  · obtain ⟨H', got, cnt, keys, st⟩ := st
    rw [Nat.zero_add] at st ⊢
    have lj := (List.getElem?_eq_some_iff.mp hv).1
    have ej : due[j]? = some (due[j]'(by omega)) := List.getElem?_eq_getElem _
    refine wpAny_bind (st.key oL oB hBL (turn j v _ hv ej) fun u s2 H2 v' eB nx => ?_)
    have sz : got.size ≤ its.length := by
      rw [st.size, List.length_take]
      omega
    have up := Heap.SameBut.update s2.heap B (Obj.mapSeq fun g => g.push u)
    have nxt := nx _ (fun b o hb e => (up.2 b hb).trans e) _ (get?_update_seq eB fun g => g.push u)
    rw [← take_more ej] at nxt
    exact wpAny_bind (listUpdate_at eB rfl (wpAny_pure ⟨rfl, H2, _, _, _, nxt⟩) (by omega) (by rw [Array.size_push]; omega))
  · obtain ⟨H', got, cnt, keys, st⟩ := st
    rw [Nat.zero_add, ← many, List.take_length] at st
    exact wpAny_bind (listItems_at st.atB rfl (st.ends oL oB hBL many small alk srt deep fun s2 out c J eL ko => go H' s2 out c J st.old st.nL eL ko))
end
end Cm
namespace Cm
open PySem PySem.Spec PySem.Calls PyProof.Rows L2 LamX NdefX
section
variable {X : Cx} {pins : List (Addr × Obj)} {σ : L2.St} {H : Hp} {s : Shared}
open PySem.W in
/-- the built-in's own steps around the keys -/
theorem keys_tree {Ar : Around} {f : Value} {its : List Value} {due : List PyData} {Q : PySem.Fin → Shared → Prop} {E : Value → Shared → Prop} {L : Addr} {n : Nat} (I : Inv X pins σ H s) (own : FpOk X pins H L) (at_ : s.heap.get? L = some (seqObj "list" its.toArray n))
    (many : due.length = its.length) (small : its.length ≤ sizeLine) (alk : AllAlike due) (srt : Sortable due) (deep : ∀ d ∈ due, Ar.units + d.depth < cLine) (turn : ∀ (i : Nat) v k, its[i]? = some v → due[i]? = some k → KeyTurn X pins σ H Ar f v k)
    (go : ∀ H' s' out c, Inv X pins σ H' s' → Same H H' → H' L = none → s'.heap.get? L = some (seqObj "list" (List.toArray out) c) → KeyedOut false due its out → Q (.done (.ret .none)) s') : wpAny (model X.prog X.w) Ar (ksk_tree L f false) Q E s := by
  have empt := get?_update_seq at_ fun _ => (#[] : Array Value)
  have rest := Heap.SameBut.update s.heap L (Obj.mapSeq fun _ => (#[] : Array Value))
  have size : ((s.heap.update L (Obj.mapSeq fun _ => (#[] : Array Value))).push (seqObj "tuple" its.toArray 0)).objs.size = s.heap.objs.size + 1 := by rw [size_push', Heap.size_update]
  have older : L < s.heap.objs.size := Heap.lt_size at_
  have J := I.turnedL (t' := s.toks) (ch := [L]) (h' := ((s.heap.update L (Obj.mapSeq fun _ => (#[] : Array Value))).push (seqObj "tuple" its.toArray 0)).push (seqObj "list" #[] 0))
    (fun b o hb e => Heap.get?_push_of_some _ (Heap.get?_push_of_some _ ((rest.2 b (fun z => hb (by simp [z]))).trans e))) (fun b hb => List.mem_singleton.mp hb ▸ own)
  have oB := I.fpOk (b := ((s.heap.update L (Obj.mapSeq fun _ => (#[] : Array Value))).push (seqObj "tuple" its.toArray 0)).objs.size) (by rw [size]; exact Nat.le_succ _) (I.hok.fresh (by rw [size]; exact Nat.le_succ _))
  unfold ksk_tree
  refine wpAny_bind (listItems_at at_ rfl (wpAny_bind (listUpdate_at at_ rfl (wpAny_bind (seqEpoch_at empt rfl (wpAny_bind (wpAny_newTuple (wpAny_bind (wpAny_newList (wpAny_holding ?_) (Nat.zero_le _))) (show its.length ≤ _ from small))))) (by rw [List.size_toArray]; exact small) (Nat.zero_le _))))
  exact Amid.walk ⟨J, fun _ _ e => e, own.1, oB.1, Heap.get?_push_size _ rfl, Heap.get?_push_of_some _ (Heap.get?_push_of_some _ empt), .nil, .nil⟩ own oB (by rw [size]; exact (Nat.ne_of_lt (Nat.lt_succ_of_lt older)).symm) many small alk srt deep turn go
theorem each_nI : ∀ {bs : List Nat} {us : List Value}, Vals (bs.map nI) us → PySem.W.EachIs (fun u b => RelV (nI b) u) us bs
  | [], _, r => by
    cases r
    exact .nil
  | b :: bs, _, r => by
    cases r with
    | cons r1 r2 => exact .cons r1 (each_nI r2)
theorem nI_each : ∀ {bs : List Nat} {us : List Value}, PySem.W.EachIs (fun u b => RelV (nI b) u) us bs → Vals (bs.map nI) us
  | _, _, .nil => .nil
  | _, _, .cons h t => .cons h (nI_each t)
/-- the lambda's turn -/
theorem lam_turn {q : Str} {params : Arguments} {body : Expr} {scope : Scope} {cl : List (Str × Addr)} {f c' : Addr} {pm ctv : Value} {u : Value} {b : Nat} {A : Around} {k : Nat} {tb : TE} {Q : VK} {ws : List (Option V)}
    (I : Inv X pins σ H s) (hp : (f, PySem.W.kla_obj "<lambda>" q params body scope cl pm c' ctv) ∈ pins) (hA : Env0 X.prog X.w X.K X.mg X.base A X.stack s H) (hr : Room (k + 1) A) (S : NScope ["member", "self"] ["member"] ["self"] scope) (hc : H c' = some (CodeO c' q)) (C : CellsAt cl ["self"] ws s.heap H) (r : RelV (nI b) u)
    (hbind : bindArgs (PySem.W.kla_fn "<lambda>" q params body scope cl pm (.ref c') ctv) ⟨[u], []⟩ = pure [(("member" : Str), u)])
    (hbody : ∀ (A : Around) (outer : List Env) (s : Shared) (H : Hp), Room k (A.deeper (envF ⟨"<lambda>", q, params, [], scope, cl, c'⟩ f s.heap.objs.size)) → PE (ncx C8.CX0 X.prog X.w X.K X.mg X.base ["member", "self"] ⟨"<lambda>", q, params, [], scope, cl, c'⟩ f A outer s H C8.E0) body tb)
    (h : tb (startF ["member", "self"] [nI b] ws) H Q) : wpAny (model X.prog X.w) A (call (.ref f) [u]) (EP X pins σ Q) (fun _ _ => False) s := by
  have of1 := (I.pin _ (List.mem_append_right _ hp)).1
  obtain ⟨⟨oc, vs, t, hoc, hdc, hvc⟩, _, _⟩ := I.hok c' _ hc
  refine wpAny_call (codeAny_mono (R := CR C8.CX0 X.stack X.prog X.w H s Q C8.E0) (PySem.W.kla_callFunE hr.depth of1 rfl S.co S.gen rfl ⟨c', oc, vs, t, rfl, hoc, hdc, hvc⟩ ?_) fun res s' fin => ?_)
  · rw [hbind]
    refine wpAny_pure (wpAny_newFunctionEnv S.nocell (fun y hy => by rw [List.mem_singleton.mp hy]; exact S.par _ (List.mem_singleton.mpr rfl)) (fun hp2 ns but => ⟨I.nolimit.fresh _ but, ?_⟩) S.kind)
    have J := inv_startN (CX := C8.CX0) (E := C8.E0) (F := ⟨"<lambda>", q, params, [], scope, cl, c'⟩) (f := f) (tk := s.toks + 1) (ps := ["member"]) (us := [u]) (vs := [nI b]) S hr.hd hA rfl (.cons r .nil) C ns fun y o e => but.extBut y o (fun z => by rw [z] at e; exact Nat.lt_irrefl _ (Heap.lt_size e)) (Heap.get?_push_of_some _ e)
    refine PySem.W.kla_codeExpr (wpAny_mono ((hbody _ _ s H (hr.deeper _)).run [] _ _ H Q J h) (fun v s2 fin => ?_) fun _ _ z => z)
    obtain ⟨x, H2, J2, rx, qx⟩ := fin
    exact ⟨x, H2, J2.os, J2.bare, J2.base, J2.hok, rx, qx⟩
  · match res, fin with
    | .error _, fin => exact (show False from fin)
    | .ok (.ret _), fin => exact I.after fin
    | .ok .next, fin => exact fin.elim
    | .ok .brk, fin => exact fin.elim
    | .ok .cont, fin => exact fin.elim
end
def tSortLam (K : PySem.W.Frag) (T : List (Addr × Str)) (te tb : TE) (j : Nat) : TE := fun σ H Q => te σ H fun x H1 => ∃ (l : Addr) (bs : List Nat) (k : Nat → PyData), x = .ref l ∧ H1 l = some (.lst (bs.map nI)) ∧ Tabs T H1 ∧
  PySem.W.AllAlike (bs.map k) ∧ PySem.W.Sortable (bs.map k) ∧ (∀ b ∈ bs, (k b).depth ≤ 8) ∧
  ∀ H2, ExtN H1 H2 → Tabs T H2 → (∀ b ∈ bs, ∀ H3, Same H2 H3 → tb (startF ["member", "self"] [nI b] [slotAt σ j]) H3 fun v' H4 => Same H3 H4 ∧ Dp K H4 v' (k b)) ∧
    ∀ H5 L, Same H2 H5 → H5 L = none → Q (.ref L) (upd H5 L (.lst ((bs.mergeSort (PySem.W.dataLe false k)).map nI)))
def freeB (sc scope : Scope) : Bool := scope.names.all fun y => !decide (y.2 = .free) || decide (sc.names.lookup y.1 = some .cell) || decide (sc.names.lookup y.1 = some .free)
theorem free_by {sc scope : Scope} (h : freeB sc scope = true) : ∀ y ∈ scope.names, y.2 = .free → sc.names.lookup y.1 = some .cell ∨ sc.names.lookup y.1 = some .free := fun y hy e => by
  unfold freeB at h
  simp only [Bool.or_eq_true, Bool.not_eq_true', decide_eq_true_eq, decide_eq_false_iff_not, List.all_eq_true] at h
  rcases h y hy with (z | z) | z
  · exact absurd e z
  · exact .inl z
  · exact .inr z
section
variable {X : Cx}
open PySem.W in
/-- sorted(e, key=lambda member: body), the lambda's one captured name the slot j -/
theorem pe_sortedLam {T : List (Addr × Str)} {c P : Addr} {e : Expr} {te tb : TE} {params : Arguments} {body : Expr} {scope : Scope} {lpos kpos p pos : Pos} {j k : Nat} (hg : Gl X "sorted") (hm : X.mg "sorted" = none) (he : PE X e te) (TB : TabB X.base X.mg c P) (hcode : X.env.code = .ref c)
    (hmT : (P, X.env.qual ++ "<lambda>") ∈ T) (hu : ∀ p ∈ T, p.1 = P → p.2 = X.env.qual ++ "<lambda>") (hr : Room (k + 3) X.A) (S : NScope ["member", "self"] ["member"] ["self"] scope)
    {sc : Scope} (hfreeB : freeB sc scope = true) (hsc : X.env.scope = sc) (hj : X.N[j]? = some ("self" : Str)) (hdef : defaultsOf params X.env = ([], []))
    (hbind : ∀ (q : Str) (cl : List (Str × Addr)) (pm cv ctv u : Value), bindArgs (kla_fn "<lambda>" q params body scope cl pm cv ctv) ⟨[u], []⟩ = pure [(("member" : Str), u)])
    (hbody : ∀ (q : Str) (cl : List (Str × Addr)) (c' f : Addr) (A : Around) (outer : List Env) (s : Shared) (H : Hp), Room k (A.deeper (envF ⟨"<lambda>", q, params, [], scope, cl, c'⟩ f s.heap.objs.size)) →
      PE (ncx C8.CX0 X.prog X.w X.K X.mg X.base ["member", "self"] ⟨"<lambda>", q, params, [], scope, cl, c'⟩ f A outer s H C8.E0) body tb)
    (h1 : backTo pos (starEach [e] X.env) = (false, eval e X.env) :: backTo pos (starEach [] X.env) := by rfl) (hpl : (backTo pos (starEach [e] X.env)).any (·.1) = false := by rfl) :
    PE X (.Call (.Name "sorted" p) [e] [⟨some ("key" : Str), .Lambda params body scope lpos, kpos⟩] pos) (tSortLam X.K T te tb j) := by
  have hfr : (("self" : Str), NameKind.free) ∈ scope.names := PySem.mem_of_lookup (S.frk _ (List.mem_singleton.mpr rfl))
  have hfree := free_by hfreeB
  rw [← hsc] at hfree
  refine ⟨fun pins s σ H Q I h => ?_⟩
  refine wpAny_Call_Name_kw (ld_blt (u := .builtin "sorted") I hg hm (by decide +kernel) ?_ (by decide) (by decide))
  refine PyProof.Rows.callWith_kw ?_ h1 hpl (by rfl) (by rfl)
  rw [h1]
  refine Calls.spliced_cons (thn (he.run pins s σ H _ I h) fun u s1 ⟨x, H1, I1, r1, l, bs, kf, ex, hl, hT, hal, hsk, hdp, q1⟩ => ?_)
  subst ex
  obtain rfl : u = Value.ref l := r1
  refine Calls.spliced_nil ?_
  show wpAny _ _ (evalAll [do let v ← eval (.Lambda params body scope lpos) X.env; standAt pos; pure v]) _ _ s1
  refine wpAny_evalAll_cons (wpAny_bind (lam_make2 I1 TB hcode hmT hu hT hdef (fun y hy e => (hfree y hy e).elim (fun z => I1.ok.has _ (.inl z)) fun z => I1.ok.has _ (.inr z)) fun f c' pm ctv H2 s2 I2 eN T2 hf hfn hfk hco => wpAny_bind (wpAny_standAt (wpAny_pure (wpAny_evalAll_nil ?_)))))
  obtain ⟨turns, fin⟩ := q1 H2 eN T2
  show wpAny _ _ (call (.builtin "sorted") [.ref l] [(Str.ofString "key", .ref f)]) _ _ s2
  have hl2 : H2 l = some (.lst (bs.map nI)) := eN _ _ hl (fun ps z => by cases z)
  obtain ⟨its, rv, hli, hL⟩ := I2.list (SqL.of hl2)
  rw [List.length_map] at hL
  have e0 := each_nI rv
  have hlen : its.length = bs.length := e0.length
  have nL : f ≠ X.env.locals := fun z => by
    obtain ⟨m, ⟨o, es, ep, ho, r⟩, _⟩ := I2.loc
    rw [← z, hf] at ho
    cases ho
    exact absurd r.1 (by intro z; cases z)
  have nF : f ∉ X.fs := fun z => hfk (by
    rcases I2.ok.stk with q | ⟨q, _⟩
    · rw [q]; exact z
    · rw [q]
      obtain ⟨v, hv, e⟩ := List.mem_filterMap.mp z
      exact List.mem_filterMap.mpr ⟨v, List.mem_cons_of_mem _ hv, e⟩)
  have If : Inv X (pins ++ [(f, kla_obj "<lambda>" (X.env.qual ++ "<lambda>") params body scope (cloFrom X.env.cells scope.names []) pm c' ctv)]) σ H2 s2 := I2.pins_of fun p hp => (List.mem_append.mp hp).elim (fun z => I2.pin p (List.mem_append_right _ z)) fun z => by
    rw [List.mem_singleton.mp z]
    exact ⟨hf, hfn, nL, nF, fun v z => by cases z⟩
  refine sorted_of_sort hli.isList (by omega) (ksk_s1 _ _) (fun x => ksk_l1 _ _) fun E' => ?_
  rw [ksk_t1]
  have fa := If.fpOk (b := s2.heap.objs.size + 1) (Nat.le_succ _) (I2.hok.fresh (Nat.le_succ _))
  refine keys_tree (due := bs.map kf) (If.kept (t' := s2.toks) (h' := copyHeap s2.heap its) fun b o e => copyHeap_old e) fa (copyHeap_at s2.heap its) (by rw [List.length_map]; exact hlen.symm) (by omega) hal hsk (fun d hd => ?_) (fun i v kk hv hkk pins1 H1' s1' sub I1' sm => ?_) fun H5 s5 out cc I5 s5' n5 hD ko => ⟨rfl, ?_⟩
  · obtain ⟨b, hb, rfl⟩ := List.mem_map.mp hd
    have q1 := hdp b hb
    have q2 := hr.un
    show X.A.units + 1 + 1 + (kf b).depth < _
    omega
  · rw [List.getElem?_map] at hkk
    cases q : bs[i]? with
    | none =>
      rw [q] at hkk
      cases hkk
    | some b =>
      rw [q] at hkk
      cases hkk
      have hz : (v, b) ∈ its.zip bs := List.mem_of_getElem? (i := i) (by rw [List.getElem?_zip_eq_some]; exact ⟨hv, q⟩)
      exact lam_turn I1' (sub _ (List.mem_append_right _ (List.mem_singleton.mpr rfl))) I1'.env0.in1.in1 hr.in1.in1 S (sm _ _ hco) (cells_of (js := [j]) I1' (Caps.made I1'.ok hfree (fun y hy => by rw [List.mem_singleton.mp hy]; exact hfr) (by simp [hj]))) (e0.zip _ hz) (hbind _ _ _ _ _ _) (hbody _ _ _ _) (turns b (List.mem_of_getElem? q) H1' sm)
  · have eo := keyedOut_each kf ko e0
    exact ⟨.ref _, _, (adopt I5 (fpMove fa n5) (by rw [List.length_map, List.length_mergeSort]; exact hL) (nI_each eo) hD).unpinned, rfl, fin H5 _ s5' n5⟩
end
end Cm
/-! The order, plain -/
namespace Cm
open PySem PySem.W
open Kg83 (Try opt least val less)
def rankT (s : Kg83.State) (i : Nat) : List Try := if s.kind = 2 then [least (s.triesOf i)] else [Kg83.result s.kind (s.triesOf i), least (s.triesOf i)]
theorem rankZ_eq (s : Kg83.State) (i : Nat) : rankZ s i = (rankT s i).map opt := by
  unfold rankZ rankT
  split <;> rfl
theorem key_eq (s : Kg83.State) (i : Nat) : s.key i = (rankT s i).map val := by
  unfold Kg83.State.key rankT
  split <;> rfl
theorem rankT_len (s : Kg83.State) (i j : Nat) : (rankT s i).length = (rankT s j).length := by
  unfold rankT
  split <;> rfl
def Small (x : Try) : Prop := ∀ n, x = some n → n ≤ 360000
theorem nearest_le {a : Nat} (h : a ≤ 1080000) : Kg83.nearest a 3 ≤ 360000 := by
  unfold Kg83.nearest
  omega
theorem sum3_le : ∀ {l : List Nat} {k : Nat}, l.length ≤ k → (∀ n ∈ l, n ≤ 360000) → l.sum ≤ k * 360000
  | [], k, _, _ => by simp
  | n :: l, k, h, a => by
    cases k with
    | zero => simp at h
    | succ k =>
      have q := sum3_le (l := l) (k := k) (by simpa using h) fun m hm => a m (List.mem_cons_of_mem _ hm)
      have q2 := a n List.mem_cons_self
      rw [List.sum_cons, Nat.succ_mul]
      omega
theorem cnt_le {s : Kg83.State} (h : WF s) (i : Nat) : ∀ n ∈ cnt (s.triesOf i), n ≤ 360000 := fun n hn => by
  obtain ⟨x, hx, e⟩ := List.mem_filterMap.mp hn
  have e : x = some n := e
  rw [e] at hx
  exact h.val i n hx
theorem small_least {s : Kg83.State} (h : WF s) (i : Nat) : Small (least (s.triesOf i)) := fun n e => cnt_le h i n (least_some e).1
theorem small_result {s : Kg83.State} (h : WF s) (i : Nat) : Small (Kg83.result s.kind (s.triesOf i)) := fun n e => by
  unfold Kg83.result at e
  split at e
  · unfold Kg83.average at e
    split at e
    · cases e
    · have e : (if (Kg83.sorted (cnt (s.triesOf i))).length < 4 then none else some (Kg83.nearest ((((Kg83.sorted (cnt (s.triesOf i))).drop 1).take 3).sum) 3)) = some n := e
      split at e
      · cases e
      · cases e
        refine nearest_le (sum3_le (k := 3) (List.length_take_le _ _) fun m hm => cnt_le h i m ?_)
        exact (sorted_ok _).2.mem_iff.mp (List.mem_of_mem_drop (List.mem_of_mem_take hm))
  · split at e
    · split at e
      · exact small_least h i n e
      · cases e
    · unfold Kg83.mean at e
      split at e
      · cases e
      · rename_i hc
        cases e
        refine nearest_le (sum3_le (k := 3) ?_ fun m hm => cnt_le h i m hm)
        have q2 : ¬ (s.triesOf i).length ≠ 3 := fun z => hc (.inl z)
        exact Nat.le_trans (List.length_filterMap_le _ _) (by omega)
theorem small_rank {s : Kg83.State} (h : WF s) (i : Nat) : ∀ x ∈ rankT s i, Small x := fun x hx => by
  unfold rankT at hx
  split at hx
  · rw [List.mem_singleton.mp hx]
    exact small_least h i
  · rcases List.mem_cons.mp hx with z | z
    · rw [z]
      exact small_result h i
    · rw [List.mem_singleton.mp z]
      exact small_least h i
theorem bz_alike (x y : Int) : alike (bz x) (bz y) = true := by simp [bz, alike, alikeAll]
theorem bz_lt {a b : Try} (ha : Small a) (hb : Small b) : dataLt (bz (opt a)) (bz (opt b)) = decide (val a < val b) := by
  unfold bz
  rw [dataLt_ii, decide_eq_decide]
  cases a with
  | none =>
    cases b with
    | none =>
      show (((if (-1 : Int) = -1 then 1 else 0) : Int) < (if (-1 : Int) = -1 then 1 else 0) ∨ ((if (-1 : Int) = -1 then 1 else 0) : Int) = (if (-1 : Int) = -1 then 1 else 0) ∧ (-1 : Int) < -1) ↔ 10000000 < 10000000
      simp
    | some n =>
      have := hb n rfl
      have e : ¬ ((n : Int) = -1) := by omega
      show (((if (-1 : Int) = -1 then 1 else 0) : Int) < (if (n : Int) = -1 then 1 else 0) ∨ ((if (-1 : Int) = -1 then 1 else 0) : Int) = (if (n : Int) = -1 then 1 else 0) ∧ (-1 : Int) < n) ↔ 10000000 < n
      rw [if_pos rfl, if_neg e]
      omega
  | some m =>
    have := ha m rfl
    have e1 : ¬ ((m : Int) = -1) := by omega
    cases b with
    | none =>
      show (((if (m : Int) = -1 then 1 else 0) : Int) < (if (-1 : Int) = -1 then 1 else 0) ∨ ((if (m : Int) = -1 then 1 else 0) : Int) = (if (-1 : Int) = -1 then 1 else 0) ∧ (m : Int) < -1) ↔ m < 10000000
      rw [if_pos rfl, if_neg e1]
      omega
    | some n =>
      have e : ¬ ((n : Int) = -1) := by omega
      show (((if (m : Int) = -1 then 1 else 0) : Int) < (if (n : Int) = -1 then 1 else 0) ∨ ((if (m : Int) = -1 then 1 else 0) : Int) = (if (n : Int) = -1 then 1 else 0) ∧ (m : Int) < n) ↔ m < n
      rw [if_neg e1, if_neg e]
      omega
theorem pair_eqv (a b c d : Int) : PyData.eqv (.tuple [.int a, .int b]) (.tuple [.int c, .int d]) = decide (a = c ∧ b = d) := by
  rw [Bool.eq_iff_iff]
  simp [PyData.eqv, PyData.eqvAll]
theorem bz_eqv {a b : Try} (ha : Small a) (hb : Small b) : PyData.eqv (bz (opt a)) (bz (opt b)) = decide (val a = val b) := by
  unfold bz
  rw [pair_eqv, decide_eq_decide]
  have e : (((if opt a = -1 then 1 else 0) : Int) = (if opt b = -1 then 1 else 0) ∧ opt a = opt b) ↔ opt a = opt b := ⟨fun h => h.2, fun h => ⟨by rw [h], h⟩⟩
  rw [e]
  cases a with
  | none =>
    cases b with
    | none => exact ⟨fun _ => rfl, fun _ => rfl⟩
    | some n =>
      have := hb n rfl
      show (-1 : Int) = n ↔ 10000000 = n
      omega
  | some m =>
    have := ha m rfl
    cases b with
    | none =>
      show (m : Int) = -1 ↔ m = 10000000
      omega
    | some n =>
      show (m : Int) = n ↔ m = n
      omega
theorem rowT_lt : ∀ {as bs : List Try}, as.length = bs.length → (∀ x ∈ as, Small x) → (∀ x ∈ bs, Small x) → PyProof.Rows.lexLt PyProof.Rows.itemOrd (keyToksAll ((as.map opt).map bz)) (keyToksAll ((bs.map opt).map bz)) = less (as.map val) (bs.map val)
  | [], [], _, _, _ => PyProof.Rows.lex_irrefl _
  | [], _ :: _, h, _, _ => by simp at h
  | _ :: _, [], h, _, _ => by simp at h
  | a :: as, b :: bs, h, ha, hb => by
    have ih := rowT_lt (as := as) (bs := bs) (by simpa using h) (fun x hx => ha x (List.mem_cons_of_mem _ hx)) fun x hx => hb x (List.mem_cons_of_mem _ hx)
    have sa := ha a List.mem_cons_self
    have sb := hb b List.mem_cons_self
    rw [List.map_cons, List.map_cons, List.map_cons, List.map_cons, dataLt_cons (bz_alike _ _), ih, bz_eqv sa sb, bz_lt sa sb, List.map_cons, List.map_cons]
    show _ = (decide (val a < val b) || (val a == val b && Kg83.less (as.map val) (bs.map val)))
    by_cases e : val a = val b
    · simp [e]
    · simp [e]
theorem rowT_eqv : ∀ {as bs : List Try}, as.length = bs.length → (∀ x ∈ as, Small x) → (∀ x ∈ bs, Small x) → PyData.eqvAll ((as.map opt).map bz) ((bs.map opt).map bz) = decide (as.map val = bs.map val)
  | [], [], _, _, _ => rfl
  | [], _ :: _, h, _, _ => by simp at h
  | _ :: _, [], h, _, _ => by simp at h
  | a :: as, b :: bs, h, ha, hb => by
    have ih := rowT_eqv (as := as) (bs := bs) (by simpa using h) (fun x hx => ha x (List.mem_cons_of_mem _ hx)) fun x hx => hb x (List.mem_cons_of_mem _ hx)
    have sa := ha a List.mem_cons_self
    have sb := hb b List.mem_cons_self
    rw [List.map_cons, List.map_cons, List.map_cons, List.map_cons, PyData.eqvAll, ih, bz_eqv sa sb, List.map_cons, List.map_cons, Bool.eq_iff_iff]
    simp
theorem rank_lt {s : Kg83.State} (h : WF s) (i j : Nat) : dataLt (rankD s i) (rankD s j) = less (s.key i) (s.key j) := by
  unfold rankD
  rw [dataLt_list, rankZ_eq, rankZ_eq, rowT_lt (rankT_len s i j) (small_rank h i) (small_rank h j), key_eq, key_eq]
theorem rank_eqv {s : Kg83.State} (h : WF s) (i j : Nat) : PyData.eqv (rankD s i) (rankD s j) = decide (s.key i = s.key j) := by
  unfold rankD
  rw [PyData.eqv, rankZ_eq, rankZ_eq, rowT_eqv (rankT_len s i j) (small_rank h i) (small_rank h j), key_eq, key_eq]
theorem rank_alike (s : Kg83.State) (i j : Nat) : alike (rankD s i) (rankD s j) = true := by
  unfold rankD rankZ
  split
  · simp [alike, alikeAll, bz_alike]
  · simp [alike, alikeAll, bz_alike]
theorem rank_depth (s : Kg83.State) (i : Nat) : (rankD s i).depth ≤ 8 := by
  unfold rankD rankZ
  split <;> simp [PyData.depth, PyData.depthAll, bz]
/-! the order -/
def le (s : Kg83.State) (i j : Nat) : Bool := !less (s.key j) (s.key i)
theorem le_eq {s : Kg83.State} (h : WF s) : dataLe false (rankD s) = le s := by
  rw [dataLe_eq]
  funext a b
  show (!dataLt (rankD s b) (rankD s a)) = _
  rw [rank_lt h]
  rfl
theorem le_total {s : Kg83.State} (h : WF s) : TotalLe (le s) := by
  rw [← le_eq h]
  exact sortLe_total _ _ _
theorem le_lt {s : Kg83.State} (h : WF s) {a b c : Nat} (h1 : less (s.key a) (s.key b) = true) (h2 : le s b c = true) : less (s.key a) (s.key c) = true := by
  cases e : less (s.key a) (s.key c) with
  | true => rfl
  | false =>
    have q := (le_total h).trans b c a h2 (by unfold le; rw [e]; rfl)
    unfold le at q
    rw [h1] at q
    cases q
theorem lt_le {s : Kg83.State} (h : WF s) {a b : Nat} (h1 : less (s.key a) (s.key b) = true) : le s a b = true := by
  rcases (le_total h).total a b with z | z
  · exact z
  · unfold le at z
    rw [h1] at z
    cases z
theorem put_mem {s : Kg83.State} {i x : Nat} : ∀ {l : List Nat}, x ∈ Kg83.put s i l → x = i ∨ x ∈ l
  | [], h => .inl (List.mem_singleton.mp h)
  | j :: l, h => by
    unfold Kg83.put at h
    split at h
    · exact List.mem_cons.mp h
    · rcases List.mem_cons.mp h with z | z
      · exact .inr (by rw [z]; exact List.mem_cons_self)
      · rcases put_mem z with q | q
        · exact .inl q
        · exact .inr (List.mem_cons_of_mem _ q)
theorem put_sorted {s : Kg83.State} (h : WF s) (i : Nat) : ∀ {l : List Nat}, l.Pairwise (fun a b => le s a b = true) → (Kg83.put s i l).Pairwise (fun a b => le s a b = true)
  | [], _ => by simp [Kg83.put]
  | j :: l, hp => by
    obtain ⟨h1, h2⟩ := List.pairwise_cons.mp hp
    unfold Kg83.put
    split
    · rename_i hl
      refine List.pairwise_cons.mpr ⟨fun x hx => ?_, hp⟩
      rcases List.mem_cons.mp hx with z | z
      · rw [z]
        exact lt_le h hl
      · exact lt_le h (le_lt h hl (h1 x z))
    · rename_i hl
      refine List.pairwise_cons.mpr ⟨fun x hx => ?_, put_sorted h i h2⟩
      rcases put_mem hx with z | z
      · rw [z]
        unfold le
        cases e : less (s.key i) (s.key j) with
        | true => exact absurd e hl
        | false => rfl
      · exact h1 x z
theorem put_filter {s : Kg83.State} (h : WF s) (i c : Nat) : ∀ {l : List Nat}, l.Pairwise (fun a b => le s a b = true) → (Kg83.put s i l).filter (sameRank (le s) c) = l.filter (sameRank (le s) c) ++ [i].filter (sameRank (le s) c)
  | [], _ => rfl
  | j :: l, hp => by
    obtain ⟨h1, h2⟩ := List.pairwise_cons.mp hp
    unfold Kg83.put
    split
    · rename_i hl
      cases e : sameRank (le s) c i with
      | false => rw [List.filter_cons_of_neg (by rw [e]; decide), List.filter_cons_of_neg (l := []) (by rw [e]; decide), List.filter_nil, List.append_nil]
      | true =>
        have q : (j :: l).filter (sameRank (le s) c) = [] := List.filter_eq_nil_iff.mpr fun x hx z => by
          unfold sameRank at e z
          rw [Bool.and_eq_true] at e z
          have t := (le_total h).trans x c i z.2 e.1
          have hx' : less (s.key i) (s.key x) = true := by
            rcases List.mem_cons.mp hx with r | r
            · rw [r]
              exact hl
            · exact le_lt h hl (h1 x r)
          unfold le at t
          rw [hx'] at t
          cases t
        rw [List.filter_cons_of_pos e, q, List.filter_cons_of_pos (l := []) e]
        rfl
    · have ih := put_filter h i c h2
      cases e : sameRank (le s) c j with
      | false => rw [List.filter_cons_of_neg (by rw [e]; decide), List.filter_cons_of_neg (by rw [e]; decide), ih]
      | true => rw [List.filter_cons_of_pos e, List.filter_cons_of_pos e, ih, List.cons_append]
theorem puts {s : Kg83.State} (h : WF s) : ∀ (l acc : List Nat), acc.Pairwise (fun a b => le s a b = true) → (l.foldl (fun l i => Kg83.put s i l) acc).Pairwise (fun a b => le s a b = true) ∧ ∀ c, (l.foldl (fun l i => Kg83.put s i l) acc).filter (sameRank (le s) c) = acc.filter (sameRank (le s) c) ++ l.filter (sameRank (le s) c)
  | [], acc, ha => ⟨ha, fun c => by simp⟩
  | i :: l, acc, ha => by
    obtain ⟨h1, h2⟩ := puts h l (Kg83.put s i acc) (put_sorted h i ha)
    refine ⟨h1, fun c => ?_⟩
    have q := h2 c
    rw [put_filter h i c ha, List.append_assoc, ← List.filter_append] at q
    exact q
def tried (s : Kg83.State) : List Nat := s.inIt.filter fun i => !(s.triesOf i).isEmpty
theorem order_sort {s : Kg83.State} (h : WF s) : (tried s).mergeSort (dataLe false (rankD s)) = s.order := by
  rw [le_eq h]
  obtain ⟨h1, h2⟩ := puts h (tried s) [] List.Pairwise.nil
  exact (sort_unique (le_total h) h1 fun c => by rw [h2 c]; rfl).symm
theorem order_pair {s : Kg83.State} (h : WF s) : s.order.Pairwise (fun a b => le s a b = true) := (puts h (tried s) [] List.Pairwise.nil).1
theorem order_perm {s : Kg83.State} (h : WF s) : s.order.Perm (tried s) := by
  rw [← order_sort h]
  exact List.mergeSort_perm _ _
theorem order_mem {s : Kg83.State} (h : WF s) {i : Nat} (hi : i ∈ s.order) : i ∈ s.inIt := (List.mem_filter.mp ((order_perm h).mem_iff.mp hi)).1
theorem order_nodup {s : Kg83.State} (h : WF s) : s.order.Nodup := (order_perm h).nodup_iff.mpr (h.nin.filter _)
theorem order_len {s : Kg83.State} (h : WF s) : s.order.length ≤ 40 := by
  rw [(order_perm h).length_eq]
  exact Nat.le_trans (List.length_filter_le _ _) h.il
/-! places -/
theorem less_tri : ∀ {a b : List Nat}, a.length = b.length → less a b = false → less b a = false → a = b
  | [], [], _, _, _ => rfl
  | [], _ :: _, h, _, _ => by simp at h
  | _ :: _, [], h, _, _ => by simp at h
  | x :: a, y :: b, h, h1, h2 => by
    unfold Kg83.less at h1 h2
    simp only [Bool.or_eq_false_iff, decide_eq_false_iff_not, Bool.and_eq_false_iff, beq_eq_false_iff_ne] at h1 h2
    have e : x = y := by omega
    subst e
    rw [less_tri (by simpa using h) (h1.2.resolve_left fun z => z rfl) (h2.2.resolve_left fun z => z rfl)]
theorem place_0 {s : Kg83.State} (h : WF s) {i : Nat} (h0 : s.order[0]? = some i) : s.place i = 1 := by
  unfold Kg83.State.place
  have hp := order_pair h
  have q : s.order.filter (fun j => less (s.key j) (s.key i)) = [] := List.filter_eq_nil_iff.mpr fun x hx z => by
    cases e : s.order with
    | nil =>
      rw [e] at hx
      simp at hx
    | cons y l =>
      rw [e] at hp hx h0
      have : y = i := by simpa using h0
      subst this
      have t : le s y x = true := by
        rcases List.mem_cons.mp hx with r | r
        · rw [r]
          exact (le_total h).refl _
        · exact (List.pairwise_cons.mp hp).1 x r
      unfold le at t
      rw [z] at t
      cases t
  rw [q]
  rfl
theorem place_same {s : Kg83.State} {i j : Nat} (e : s.key i = s.key j) : s.place i = s.place j := by
  unfold Kg83.State.place
  rw [e]
theorem place_next {s : Kg83.State} (h : WF s) {k i j : Nat} (hi : s.order[k]? = some i) (hj : s.order[k + 1]? = some j) (e : s.key j ≠ s.key i) : s.place j = k + 2 := by
  unfold Kg83.State.place
  have hp := order_pair h
  have hl : k + 1 < s.order.length := (List.getElem?_eq_some_iff.mp hj).1
  have split : s.order = s.order.take (k + 1) ++ s.order.drop (k + 1) := (List.take_append_drop _ _).symm
  have hd : s.order.drop (k + 1) = j :: s.order.drop (k + 2) := by
    obtain ⟨hl', e'⟩ := List.getElem?_eq_some_iff.mp hj
    rw [← e', List.drop_eq_getElem_cons hl']
  have ht : s.order.take (k + 1) = s.order.take k ++ [i] := by rw [List.take_add_one, hi]; rfl
  have le1 : le s i j = true := by
    rw [split, ht, hd] at hp
    exact (List.pairwise_append.mp hp).2.2 i (List.mem_append_right _ (List.mem_singleton.mpr rfl)) j List.mem_cons_self
  have lt1 : less (s.key i) (s.key j) = true := by
    cases q : less (s.key i) (s.key j) with
    | true => rfl
    | false =>
      refine absurd (less_tri ?_ ?_ q) e
      · rw [key_eq, key_eq, List.length_map, List.length_map]
        exact rankT_len s j i
      · unfold le at le1
        cases z : less (s.key j) (s.key i) with
        | true =>
          rw [z] at le1
          cases le1
        | false => rfl
  have f1 : (s.order.take (k + 1)).filter (fun x => less (s.key x) (s.key j)) = s.order.take (k + 1) := List.filter_eq_self.mpr fun x hx => by
    have t : le s x i = true := by
      rw [ht] at hx
      rcases List.mem_append.mp hx with r | r
      · have hp2 := hp
        rw [split, ht, List.append_assoc] at hp2
        exact (List.pairwise_append.mp hp2).2.2 x r i (by simp)
      · rw [List.mem_singleton.mp r]
        exact (le_total h).refl _
    cases q : less (s.key x) (s.key j) with
    | true => rfl
    | false =>
      have t2 : le s j x = true := by
        unfold le
        rw [q]
        rfl
      have t3 := (le_total h).trans j x i t2 t
      unfold le at t3
      rw [lt1] at t3
      cases t3
  have f2 : (s.order.drop (k + 1)).filter (fun x => less (s.key x) (s.key j)) = [] := List.filter_eq_nil_iff.mpr fun x hx z => by
    have t : le s j x = true := by
      rw [hd] at hx
      rcases List.mem_cons.mp hx with r | r
      · rw [r]
        exact (le_total h).refl _
      · rw [split, hd] at hp
        exact (List.pairwise_cons.mp (List.pairwise_append.mp hp).2.1).1 x r
    unfold le at t
    rw [z] at t
    cases t
  have f3 : s.order.filter (fun x => less (s.key x) (s.key j)) = s.order.take (k + 1) := by
    conv => lhs; rw [split]
    rw [List.filter_append, f1, f2, List.append_nil]
  rw [f3, List.length_take]
  omega
end Cm
namespace Cm
open PySem PySem.Spec PyProof.Rows L2 LamX NdefX
def tt_order (K : PySem.W.Frag) : TT := tTest (tOp (rNeD K) (tDGet (tFld K (tVar 0) "attempts") (tVar 5)) (tLst tNil))
def qLam : Str := ("Round.order" : Str) ++ ".<locals>." ++ "<lambda>"
def tabO (A : Ads) : List (Addr × Str) := [(A.pOrder, qLam)]
theorem RoundAt.ext {A : Ads} {H H' : Hp} {r : Addr} {R : RA} {s : Kg83.State} (h : RoundAt A H r R s) (e : ExtN H H') : RoundAt A H' r R s :=
  ⟨e _ _ h.ins (fun _ z => by cases z), e _ _ h.mem (fun _ z => by cases z), e _ _ h.att (fun _ z => by cases z), h.al, fun k i a h1 h2 => e _ _ (h.at_ k i a h1 h2) (fun _ z => by cases z), e _ _ h.scr (fun _ z => by cases z), h.scl, fun k z a h1 h2 => e _ _ (h.sc_ k z a h1 h2) (fun _ z => by cases z), h.nd, h.wf⟩
theorem ExtN.same {H H' : Hp} (e : Same H H') : ExtN H H' := fun b o h _ => e b o h
theorem rank_shaped (s : Kg83.State) (i : Nat) : SeqAt.shaped (rankD s i) = true := by
  unfold rankD rankZ
  split <;> simp [SeqAt.shaped, PyData.canLay0, PyData.canLayAll0, PyData.depth, PyData.depthAll, bz]
section
variable {P : Program} {w : World} {K : PySem.W.Frag} {mg : Str → Option Value} {base : Heap} {A : Ads}
def hasT (s : Kg83.State) (i : Nat) : Bool := !(s.triesOf i).isEmpty
def Pairs (s : Kg83.State) (H : Hp) (ps : List Addr) : Prop := ∀ (k : Nat) (i : Nat) (a : Addr), s.order[k]? = some i → ps[k]? = some a → H a = some (.tup [nI i, nI (s.place i)])
def spOrder (A : Ads) : Sp := fun vs H Q _ => ∃ (r : Addr) (R : RA) (s : Kg83.State), vs = [.ref r] ∧ RoundAt A H r R s ∧ Tabs (tabO A) H ∧ ∀ H' L ps, ExtN H H' → Tabs (tabO A) H' → H' L = some (.lst (ps.map V.ref)) → ps.length = s.order.length → Pairs s H' ps → Q (.ref L) H'
theorem sc_Round_order : FnScope ["self", "some", "found", "place", "k", "member"] ["self"] (defScope s_Round_order) := ⟨rfl, rfl, rfl, by decide +kernel, rfl, by decide +kernel, by decide +kernel⟩
theorem ok_order (T : Txt K mg A) (TB : TabB base mg A.cOrder A.pOrder) : Has P w K mg base CX0 10 A.Round_order ["self"] (spOrder A) := by
  obtain ⟨oc, od, kV, doc, pm, an, ct, osl, lk⟩ := T.f_Round_order
  refine ⟨_, fn_of (k := 9) lk T.cd_Round_order sc_Round_order (fun vs H Q E h => ?_) (fun Ar outer s0 H vs Q E hr h => ?_), (fun_mk lk T.cd_Round_order T.kp_Round_order).binds (fun _ _ _ _ _ _ us hu => by
    obtain ⟨u, rfl⟩ : ∃ u, us = [u] := List.length_eq_one_iff.mp hu
    rfl), T.kp_Round_order⟩
  · obtain ⟨_, _, _, rfl, _⟩ := h
    rfl
  obtain ⟨r, R, s, rfl, hR, hT, k⟩ := h
  have G_rank := ok_rank (P := P) (w := w) (base := base) T
  suffices hh : ∃ t, PSs (cxOf CX0 P w K mg base ["self", "some", "found", "place", "k", "member"] "Round.order" (defScope s_Round_order) A.Round_order (.ref A.cOrder) Ar outer s0 H E).nox (defBody s_Round_order) t ∧ t { nx := fun _ H' => Q .non H', rt := Q } (start ["self", "some", "found", "place", "k", "member"] [.ref r]) H by
    obtain ⟨t, h1, h2⟩ := hh
    exact ⟨t, h1.nox, h2⟩
  refine ⟨_, (pss_cons (ps_setLc (i := 1) (own := [("member", 5)]) (g := gName 5) (tt := tt_order K)  rfl sc_Round_order.nd rfl rfl (sw_true rfl rfl rfl (by decide +kernel)) (pi_list (pe_fld (pv 0) rfl)) (blkOk_by (N := ["self", "some", "found", "place", "k", "member"]) (sc := defScope s_Round_order) (by decide +kernel)) (fun _ _ _ _ _ => (pg_name (i := 5) sc_Round_order.nd rfl (Or.inl rfl))) (fun _ _ _ _ _ => (pts_one (pt_cmpR (op_neD hr.units) (pe_dget (hu_of hr) (pe_fld (pv 0) rfl) (pv 5) (fun _ _ => rfl)) (pe_lst pa_nil) (nomark _)))) (fun _ _ _ _ _ => (pv 5)))
    (pss_cons (ps_set (i := 1) sc_Round_order.nd rfl (Or.inl rfl) (pe_sortedLam (T := tabO A) (j := 0) (k := 5) (sc := defScope s_Round_order) (tb := tMt A.CRound "rank" (spRank K A) E0 (tVar 1) (tCons (tVar 0) tNil)) rfl T.b_sorted (pv 1) TB rfl (List.mem_singleton.mpr rfl) (fun p hp _ => by rw [List.mem_singleton.mp hp]; rfl) (hr.mono (by decide)) (nscope_by (by decide +kernel)) (by decide +kernel) rfl rfl rfl (fun _ _ _ _ _ _ => rfl) (fun _ _ _ _ _ _ _ _ hr' => pe_m (pv 1) T.c_Round T.m_Round_rank G_rank (hr'.mono (by decide)) pass0 (pa_cons (pv 0) pa_nil))))
    (pss_cons (ps_set (i := 2) sc_Round_order.nd rfl (Or.inl rfl) (pe_lst pa_nil))
    (pss_cons (ps_set (i := 3) sc_Round_order.nd rfl (Or.inl rfl) pe_int)
    (pss_cons (ps_for PassesOwn.never rfl (pi_enum (by rfl) T.b_enumerate (pa_cons (pv 1) pa_nil)) (pg_tup rfl (pgs_cons (pg_name (i := 4) sc_Round_order.nd rfl (Or.inl rfl)) (pgs_cons (pg_name (i := 5) sc_Round_order.nd rfl (Or.inl rfl)) pgs_nil))) (pss_cons (ps_if (PW.pt (pw_and (pt_cmpR op_gt (pv 4) pe_int (nomark _)) (pw_and1 (pt_cmpR (op_neD hr.units) (pe_m (pv 0) T.c_Round T.m_Round_rank G_rank (hr.mono (by decide)) pass0 (pa_cons (pv 5) pa_nil)) (pe_m (pv 0) T.c_Round T.m_Round_rank G_rank (hr.mono (by decide)) pass0 (pa_cons (pe_ix ix_list (pv 1) (pe_op op_sub (pv 4) pe_int) (fun _ _ => rfl)) pa_nil)) (nomark _))))) (pss_one (ps_set (i := 3) sc_Round_order.nd rfl (Or.inl rfl) (pe_op op_add (pv 4) pe_int))) pss_nil)
    (pss_one (ps_expr (pe_bm PySem.F.plainAttrs_list PySem.F.slot_list_append PySem.F.type_list_append mt_append (pv 2) (pa_cons (pe_tup (pa_cons (pv 5) (pa_cons (pv 3) pa_nil))) pa_nil))))))
    (pss_one (ps_ret (pv 2)))))))), ?_⟩
  refine ⟨_, rfl, r, A.CRound, R.dx, _, _, rfl, hR.ins, T.c_Round, T.n_Round_members, rF_members s R, R.mem, rfl, ⟨_, SqL.of hR.mem⟩, fun D nD => ?_⟩
  refine lc_list (K := K) (a := R.mem) (xs := s.inIt.map nI) (fun j H' => Same H H' ∧ H' D = some (.lst (((s.inIt.take j).filter (hasT s)).map nI))) ⟨Same.new nD, upd_same⟩ (fun j H' _ ⟨s1, _⟩ => SqL.of (s1 _ _ hR.mem)) ?_ ?_
  · rintro j x H1 hx ⟨s1, hD⟩
    obtain ⟨i, hi, rfl⟩ := map_at hx
    have hm := List.mem_of_getElem? hi
    have hR1 := hR.same s1
    obtain ⟨_, a, _, _, hg, ha⟩ := hR1.get hm
    refine ⟨rfl, _, rfl, r, A.CRound, R.dx, _, _, rfl, hR1.ins, T.c_Round, T.n_Round_attempts, rF_attempts s R, _, rfl, R.att, .ref a, rfl, hg, (by show 0 ≤ sizeLine; decide), fun p np => ?_⟩
    have s2 : Same H1 (upd H1 p (.lst [])) := Same.new np
    refine ⟨_, .list [], .lst (SqL.of (s2 _ _ ha)) (by rw [mapTI]; exact dp_ints _), .lst (SqL.of upd_same) .nil, ints_shaped _, by decide, _, rfl, ?_⟩
    rw [eqv_nil, List.isEmpty_map]
    have lt : (((s.inIt.take j).filter (hasT s)).map nI).length < sizeLine := by
      rw [List.length_map, sizeLine_eq]
      have q1 := List.length_filter_le (hasT s) (s.inIt.take j)
      rw [List.length_take] at q1
      have := hR.wf.il
      omega
    have hD2 := s2 _ _ hD
    by_cases c : hasT s i = true
    · refine ifT c ⟨_, rfl, _, hD2, lt, fun b o e => ?_, ?_⟩
      · rw [upd_ne (ne_of_none e nD)]
        exact s2 _ _ (s1 _ _ e)
      · rw [upd_same, take_more hi, List.filter_append, List.map_append, List.filter_cons_of_pos c]
        rfl
    · refine ifF (by cases z : hasT s i with | true => exact absurd z c | false => exact z) ⟨s1.trans s2, ?_⟩
      rw [hD2, take_more hi, List.filter_append, List.filter_cons_of_neg c, List.filter_nil, List.append_nil]
  · rintro H1 ⟨s1, hD⟩
    rw [List.length_map, List.take_length] at hD
    refine ⟨_, rfl, D, tried s, rankD s, rfl, hD, hT.ext s1, PySem.W.AllAlike.of (rank_alike s), PySem.W.Sortable.others (fun b => ⟨(by intro z; cases z), (by intro xs z; cases z)⟩), fun b _ => rank_depth s b, fun H2 e2 T2 => ⟨fun b hb H3 s3 => ?_, fun H5 L s5 nL => ?_⟩⟩
    · have hR3 := ((hR.same s1).ext e2).same s3
      exact ⟨.ref r, rfl, r, R.dx, _, rfl, hR3.ins, rF_rank s R, nI b, rfl, r, R, s, b, rfl, hR3, (List.mem_filter.mp hb).1, fun H4 p s4 dp => ⟨s4, dp⟩⟩
    rw [order_sort hR.wf]
    have hR5 := (((hR.same s1).ext e2).same s5).same (Same.new (o := .lst (s.order.map nI)) nL)
    have x5 : ExtN H (upd H5 L (.lst (s.order.map nI))) := ((ExtN.same s1).trans e2).trans ((ExtN.same s5).trans (ExtN.same (Same.new nL)))
    have T5 : Tabs (tabO A) (upd H5 L (.lst (s.order.map nI))) := T2.ext fun b o e => Same.new nL b o (s5 b o e)
    refine ⟨(by show 0 ≤ sizeLine; decide), fun F nF => ?_⟩
    have nL5 : upd H5 L (.lst (s.order.map nI)) L = some (.lst (s.order.map nI)) := upd_same
    generalize upd H5 L (.lst (s.order.map nI)) = H6 at hR5 x5 T5 nF nL5 ⊢
    have FL : L ≠ F := ne_of_none nL5 nF
    have ord := hR.wf
    refine ⟨_, rfl, L, s.order.map nI, rfl, SqL.of ?_, for_it (walk_enum (K := K) (a := L) (xs := s.order.map nI)) (fun i σ H' => ∃ (pl : Nat) (kv mv : Option V) (ps : List Addr), σ = [some (.ref r), some (.ref L), some (.ref F), some (nI pl), kv, mv] ∧ (∀ b o, H6 b = some o → H' b = some o) ∧
      H' F = some (.lst (ps.map V.ref)) ∧ ps.length = i ∧ (∀ (k m : Nat) (a : Addr), s.order[k]? = some m → ps[k]? = some a → H' a = some (.tup [nI m, nI (s.place m)])) ∧ (i = 0 → pl = 1) ∧ ∀ (j m : Nat), i = j + 1 → s.order[j]? = some m → pl = s.place m)
      ⟨1, _, _, [], rfl, fun b o e => (upd_ne (ne_of_none e nF)).trans e, upd_same, rfl, fun k m a _ z => by simp at z, fun _ => rfl, fun j m z => by omega⟩ (fun i σ H' _ ⟨_, _, _, _, _, kp, _⟩ => SqL.of (kp _ _ nL5)) ?_ ?_⟩
    · exact (upd_ne FL).trans nL5
    · rintro i v σ H7 H8 hi ⟨pl, kv, mv, ps, rfl, kp, hF, hl, hps, p0, p1⟩ ⟨t, x, y, rfl, nt, rfl, ex, ey⟩
      cases ex
      obtain ⟨m, hm, rfl⟩ := map_at ey
      rw [List.length_map] at hi
      have s7 : Same H7 (upd H7 t (.tup [.int (i : Nat), nI m])) := Same.new nt
      have hR7 := (hR5.same kp).same s7
      have mem := order_mem ord (List.mem_of_getElem? hm)
      refine ⟨t, _, rfl, SqT.of upd_same, rfl, _, _, rfl, _, _, rfl, rfl, ?_⟩
      have last : ∀ (H9 : Hp) (pl' : Nat), Same H7 H9 → pl' = s.place m → ∀ t2, H9 t2 = none → ∃ (pl : Nat) (kv mv : Option V) (ps' : List Addr), [some (.ref r), some (.ref L), some (.ref F), some (nI pl'), some (V.int (i : Int)), some (nI m)] = [some (.ref r), some (.ref L), some (.ref F), some (nI pl), kv, mv] ∧
          (∀ b o, H6 b = some o → upd (upd H9 t2 (.tup [nI m, nI pl'])) F (.lst (ps.map V.ref ++ [.ref t2])) b = some o) ∧ upd (upd H9 t2 (.tup [nI m, nI pl'])) F (.lst (ps.map V.ref ++ [.ref t2])) F = some (.lst (ps'.map V.ref)) ∧ ps'.length = i + 1 ∧
          (∀ (k m' : Nat) (a : Addr), s.order[k]? = some m' → ps'[k]? = some a → upd (upd H9 t2 (.tup [nI m, nI pl'])) F (.lst (ps.map V.ref ++ [.ref t2])) a = some (.tup [nI m', nI (s.place m')])) ∧ (i + 1 = 0 → pl = 1) ∧ ∀ (j m' : Nat), i + 1 = j + 1 → s.order[j]? = some m' → pl = s.place m' := by
        intro H9 pl' s9 epl t2 n2
        have tF : t2 ≠ F := fun z => by
          rw [z, s9 _ _ hF] at n2
          cases n2
        refine ⟨pl', _, _, ps ++ [t2], rfl, fun b o e => ?_, ?_, ?_, fun k m' a hk ha => ?_, fun z => absurd z (Nat.succ_ne_zero _), fun j m' ej hj => ?_⟩
        · rw [upd_ne (ne_of_none e nF)]
          exact Same.new n2 _ _ (s9 _ _ (kp _ _ e))
        · rw [upd_same, List.map_append]
          rfl
        · rw [List.length_append, hl]
          rfl
        · by_cases hk2 : k < ps.length
          · rw [List.getElem?_append_left hk2] at ha
            have q := hps k m' a hk ha
            rw [upd_ne (ne_of q hF (by intro z; cases z))]
            exact Same.new n2 _ _ (s9 _ _ q)
          · have e1 : k = ps.length := by
              have := (List.getElem?_eq_some_iff.mp ha).1
              rw [List.length_append] at this
              have e2 : [t2].length = 1 := rfl
              omega
            rw [e1, List.getElem?_append_right (Nat.le_refl _), Nat.sub_self] at ha
            cases ha
            rw [e1, hl, hm] at hk
            cases hk
            rw [upd_ne tF, upd_same, epl]
        · have e1 : j = i := by omega
          rw [e1, hm] at hj
          cases hj
          exact epl
      have lt : (ps.map V.ref).length < sizeLine := by
        rw [List.length_map, hl, sizeLine_eq]
        have := order_len ord
        omega
      refine ⟨_, rfl, _, _, rfl, rfl, _, rfl, ?_⟩
      cases i with
      | zero =>
        refine dF (by omega) (iteF ?_)
        refine ⟨_, rfl, .inl ⟨rfl, _, SqL.of (s7 _ _ hF)⟩, _, rfl, _, rfl, (by show 2 ≤ sizeLine; decide), fun t2 n2 => ⟨F, _, .ref t2, rfl, rfl, Same.new n2 _ _ (s7 _ _ hF), lt, last _ pl s7 ?_ t2 n2⟩⟩
        rw [p0 rfl, place_0 ord hm]
      | succ i =>
        refine dT (by omega) ?_
        obtain ⟨m', hm'⟩ : ∃ m', s.order[i]? = some m' := ⟨_, List.getElem?_eq_getElem (by omega)⟩
        have mem' := order_mem ord (List.mem_of_getElem? hm')
        refine ⟨.ref r, rfl, r, R.dx, _, rfl, hR7.ins, rF_rank s R, nI m, rfl, r, R, s, m, rfl, hR7, mem, fun H8 q1 s8 d1 => ?_⟩
        have hR8 := hR7.same s8
        refine ⟨.ref r, rfl, r, R.dx, _, rfl, hR8.ins, rF_rank s R, _, rfl, _, rfl, _, _, rfl, rfl, L, _, _, nI m', rfl, rfl, SqL.of (s8 _ _ (s7 _ _ (kp _ _ nL5))), ?_, r, R, s, m', rfl, hR8, mem', fun H9 q2 s9 d2 => ?_⟩
        · rw [show ((i + 1 : Nat) : Int) - 1 = (i : Int) by omega]
          exact atI_nat (by rw [List.getElem?_map, hm']; rfl)
        have s79 : Same H7 H9 := (s7.trans s8).trans s9
        refine ⟨_, _, Dp.same s9 _ _ d1, d2, rank_shaped s m, rank_shaped s m', _, rfl, ?_⟩
        rw [rank_eqv ord]
        by_cases c : s.key m = s.key m'
        · refine ifF (by rw [decide_eq_true c]; rfl) ?_
          refine ⟨_, rfl, .inl ⟨rfl, _, SqL.of (s79 _ _ hF)⟩, _, rfl, _, rfl, (by show 2 ≤ sizeLine; decide), fun t2 n2 => ⟨F, _, .ref t2, rfl, rfl, Same.new n2 _ _ (s79 _ _ hF), lt, last _ pl s79 ?_ t2 n2⟩⟩
          rw [place_same c]
          exact p1 i m' rfl hm'
        · refine ifT (by rw [decide_eq_false c]; rfl) ?_
          refine ⟨_, rfl, _, _, rfl, rfl, ?_⟩
          have e2 : V.int (((i + 1 : Nat) : Int) + 1) = nI (i + 2) := by
            show V.int _ = V.int _
            congr 1
          refine ⟨_, rfl, .inl ⟨rfl, _, SqL.of (s79 _ _ hF)⟩, _, rfl, _, rfl, (by show 2 ≤ sizeLine; decide), fun t2 n2 => ⟨F, _, .ref t2, rfl, rfl, Same.new n2 _ _ (s79 _ _ hF), lt, last _ (i + 2) s79 ?_ t2 n2⟩⟩
          exact (place_next ord hm' hm c).symm
    · rintro σ H7 ⟨pl, kv, mv, ps, rfl, kp, hF, hl, hps, p0, p1⟩
      rw [List.length_map] at hl
      exact ⟨_, rfl, k H7 F ps (x5.trans (ExtN.same kp)) (T5.ext kp) hF hl hps⟩
end
end Cm
namespace Cm
open PySem PySem.Spec PyProof.Rows L2 LamX
section
variable {P : Program} {w : World} {K : PySem.W.Frag} {mg : Str → Option Value} {base : Heap} {A : Ads}
/-! Refused(..) -/
def ansF (z : Int) : List (Str × V) := [("answer", .int z)]
def spRefI (A : Ads) : Sp := fun vs H Q _ => ∃ (a : Addr) (z : Int) (x : V), vs = [.ref a, .int z, x] ∧ H a = some (exo a A.CRefused none) ∧ ∀ dx, H dx = none → dx ≠ a → Q .non (upd (upd H dx (exd dx (ansF z))) a (exo a A.CRefused (some dx)))
theorem sc_Refused_init : FnScope ["self", "answer", "words"] ["self", "answer", "words"] (defScope s_Refused_init) := ⟨rfl, rfl, rfl, by decide +kernel, rfl, by decide +kernel, by decide +kernel⟩
theorem ok_Refused_init (T : Txt K mg A) : Has P w K mg base CX0 1 A.Refused_init ["self", "answer", "words"] (spRefI A) := by
  refine T.f_Refused_init.ok sc_Refused_init (fun vs H Q E h => ?_) (fun cdv Ar outer s0 H vs Q E hr h => ?_)
  · obtain ⟨_, _, _, rfl, _⟩ := h
    rfl
  obtain ⟨a, z, x, rfl, ha, k⟩ := h
  refine ⟨_, (pss_cons (ps_expr (pe_veinit (by rfl) T.b_ValueError T.v_Refused (pa_cons (pv 0) (pa_cons (pv 2) pa_nil))))
    (pss_one (ps_ost (pv 0) (pv 1)))), ?_⟩
  exact ⟨_, rfl, _, rfl, a, A.CRefused, [x], rfl, (by show 1 ≤ 1000; decide), T.o_Refused, ha, _, rfl, _, rfl, a, A.CRefused, rfl, T.o_Refused, T.n_Refused, .inl ⟨ha, fun dx n ne => k dx n ne⟩⟩
/-! must -/
def Ref (A : Ads) (z : Int) (E : XK) (H : Hp) : Prop := ∀ (d : Addr) (H' : Hp), Same H H' → H' d = some (.xd (ansF z)) → E (.ref A.CRefused) (some d) H'
theorem Ref.same {A : Ads} {z : Int} {E : XK} {H H' : Hp} (h : Ref A z E H) (e : Same H H') : Ref A z E H' := fun d H2 s2 hd => h d H2 (e.trans s2) hd
def spMust (A : Ads) : Sp := fun vs H Q E => ∃ (b : Bool) (z : Int), vs = [.bl b, .int z] ∧ (b = true → Q .non H) ∧ (b = false → Ref A z E H)
theorem sc_must : FnScope ["is_so", "answer"] ["is_so", "answer"] (defScope s_must) := ⟨rfl, rfl, rfl, by decide +kernel, rfl, by decide +kernel, by decide +kernel⟩
theorem ok_must (T : Txt K mg A) : Has P w K mg base (L2.CX P w) 4 A.must ["is_so", "answer"] (spMust A) := by
  refine T.f_must.okX sc_must (fun vs H Q E h => ?_) (fun cdv Ar outer s0 H vs Q E hr h => ?_)
  · obtain ⟨_, _, rfl, _⟩ := h
    rfl
  obtain ⟨b, z, rfl, k1, k2⟩ := h
  obtain ⟨fdR, F_Refused, b_Refused, _⟩ := ok_Refused_init (P := P) (w := w) (base := base) T
  refine ⟨_, (pss_one (ps_if (pt_not (pt_val (pv 0))) (pss_one (ps_raise rfl (takes_of rfl rfl rfl rfl) (pmk_oex T.o_Refused T.y_Refused T.z_Refused F_Refused (hr.mono (by decide)) b_Refused .nil pass0 rfl T.g_Refused (pa_cons (pv 1) (pa_cons pe_str pa_nil))))) pss_nil)), ?_⟩
  refine ⟨_, rfl, b, rfl, ?_⟩
  cases b with
  | true => exact iteF (k1 rfl)
  | false =>
    refine iteT ⟨_, rfl, (by show 2 ≤ 1000; decide), fun a na => ⟨a, z, _, rfl, upd_same, fun dx nd ne => ⟨rfl, dx, ansF z, upd_same, ?_, ?_, ?_⟩⟩⟩
    · rw [upd_ne ne, upd_same]
    · rw [upd_ne ne] at nd
      exact nd
    · rw [upd_ne ne] at nd
      refine k2 rfl dx _ (fun c o e => ?_) upd_same
      have ca := ne_of_none e na
      have cd := ne_of_none e nd
      rw [upd_ne cd, del_ne ca, upd_ne ca, upd_ne cd, upd_ne ca]
      exact e
/-! is_within -/
def spWithin : Sp := fun vs H Q _ => ∃ a b c : Int, vs = [.int a, .int b, .int c] ∧ Q (.bl (Kg83.within a b c)) H
theorem sc_is_within : FnScope ["number", "least", "most"] ["number", "least", "most"] (defScope s_is_within) := ⟨rfl, rfl, rfl, by decide +kernel, rfl, by decide +kernel, by decide +kernel⟩
theorem ok_is_within (T : Txt K mg A) : Has P w K mg base CX0 1 A.is_within ["number", "least", "most"] spWithin := by
  refine T.f_is_within.ok sc_is_within (fun vs H Q E h => ?_) (fun cdv Ar outer s0 H vs Q E hr h => ?_)
  · obtain ⟨_, _, _, rfl, _⟩ := h
    rfl
  obtain ⟨a, b, c, rfl, k⟩ := h
  refine ⟨_, (pss_one (ps_ret (pe_and (pe_cmpR op_le (pv 1) (pv 0) (nomark _)) (pe_one (pe_cmpR op_le (pv 0) (pv 2) (nomark _)))))), ?_⟩
  refine ⟨_, rfl, _, rfl, _, _, rfl, rfl, _, rfl, ?_⟩
  unfold Kg83.within at k
  by_cases h : b ≤ a
  · rw [decide_eq_true h, Bool.true_and] at k
    exact dT h ⟨_, rfl, _, rfl, _, _, rfl, rfl, k⟩
  · rw [decide_eq_false h, Bool.false_and] at k
    exact dF h k
end
end Cm
namespace Cm
open PySem PySem.Spec PyProof.Rows L2 LamX
/-! a meet in the heap -/
structure MA where
  dx : Addr
  tn : Addr
  tdx : Addr
  tR : Addr
  trs : List Addr
  r : Addr
  R : RA
def curV (m : MA) (s : Kg83.State) : V := if s.round = 0 then .non else .ref m.r
def mF (m : MA) (s : Kg83.State) : List (Str × V) := [("turns", .ref m.tn), ("competitors", nI s.number), ("rounds", nI s.round), ("current", curV m s)]
theorem mF_turns (m : MA) (s : Kg83.State) : (mF m s).lookup ("turns" : Str) = some (.ref m.tn) := rfl
theorem mF_competitors (m : MA) (s : Kg83.State) : (mF m s).lookup ("competitors" : Str) = some (nI s.number) := rfl
theorem mF_rounds (m : MA) (s : Kg83.State) : (mF m s).lookup ("rounds" : Str) = some (nI s.round) := rfl
theorem mF_current (m : MA) (s : Kg83.State) : (mF m s).lookup ("current" : Str) = some (curV m s) := rfl
/-- what a call may change -/
def mutA (m : MA) (s : Kg83.State) : List Addr := if s.round = 0 then [] else m.R.sc :: m.R.atts
def foot (M : Addr) (m : MA) (s : Kg83.State) : List Addr := M :: mutA m s
/-- all of a meet's -/
def rest (m : MA) (s : Kg83.State) : List Addr := if s.round = 0 then [] else m.r :: m.R.mem :: m.R.att :: m.R.sc :: (m.R.atts ++ m.R.scs)
def supp (M : Addr) (m : MA) (s : Kg83.State) : List Addr := M :: m.tn :: m.tR :: (m.trs ++ rest m s)
theorem mutA_rest {m : MA} {s : Kg83.State} {b : Addr} (h : b ∈ mutA m s) : b ∈ rest m s := by
  unfold mutA at h
  unfold rest
  split at h
  · simp at h
  · rename_i hr
    rw [if_neg hr]
    rcases List.mem_cons.mp h with z | z
    · simp [z]
    · simp [z]
theorem rest_supp {M : Addr} {m : MA} {s : Kg83.State} {b : Addr} (h : b ∈ rest m s) : b ∈ supp M m s := by
  unfold supp
  simp [h]
theorem foot_supp {M : Addr} {m : MA} {s : Kg83.State} {b : Addr} (h : b ∈ foot M m s) : b ∈ supp M m s := by
  rcases List.mem_cons.mp h with z | z
  · rw [z]
    exact List.mem_cons_self
  · exact rest_supp (mutA_rest z)
structure TurnsP (A : Ads) (H : Hp) (m : MA) : Prop where
  t1 : H m.tn = some (.ins A.CTurns m.tdx [("rows", .ref m.tR)])
  t2 : H m.tR = some (.lst (m.trs.map V.ref))
  t3 : m.trs.length = 6
  t4 : ∀ (f : Nat) (r : Addr), m.trs[f]? = some r → H r = some (.lst ((rowT f).map nI))
theorem TurnsP.at_ {A : Ads} {H : Hp} {m : MA} (h : TurnsP A H m) : TurnsAt A H m.tn := ⟨m.tdx, m.tR, m.trs, h.t1, h.t2, h.t3, h.t4⟩
structure MeetAt (A : Ads) (H : Hp) (M : Addr) (m : MA) (s : Kg83.State) : Prop where
  ins : H M = some (.ins A.CMeet m.dx (mF m s))
  tp : TurnsP A H m
  tf : ∀ a ∈ m.tR :: m.trs, a ∉ mutA m s
  rnd : s.round ≠ 0 → RoundAt A H m.r m.R s
  z0 : s.round = 0 → s = { Kg83.init with number := s.number }
  num : s.number ≤ 40
  tabs : Tabs (tabO A) H
theorem TurnsP.kept {A : Ads} {H H' : Hp} {m : MA} (h : TurnsP A H m) (e : ∀ b, (b = m.tn ∨ b = m.tR ∨ b ∈ m.trs) → ∀ o, H b = some o → (∀ ps, o ≠ .tbl ps) → H' b = some o) : TurnsP A H' m :=
  ⟨e _ (.inl rfl) _ h.t1 (fun _ z => by cases z), e _ (.inr (.inl rfl)) _ h.t2 (fun _ z => by cases z), h.t3, fun f r hr => e _ (.inr (.inr (List.mem_of_getElem? hr))) _ (h.t4 f r hr) (fun _ z => by cases z)⟩
theorem RoundAt.kept {A : Ads} {H H' : Hp} {r : Addr} {R : RA} {s : Kg83.State} (h : RoundAt A H r R s) (e : ∀ b, b ∈ r :: R.mem :: R.att :: R.sc :: (R.atts ++ R.scs) → ∀ o, H b = some o → (∀ ps, o ≠ .tbl ps) → H' b = some o) : RoundAt A H' r R s :=
  ⟨e _ (by simp) _ h.ins (fun _ z => by cases z), e _ (by simp) _ h.mem (fun _ z => by cases z), e _ (by simp) _ h.att (fun _ z => by cases z), h.al, fun k i a h1 h2 => e _ (by simp [List.mem_of_getElem? h2]) _ (h.at_ k i a h1 h2) (fun _ z => by cases z),
    e _ (by simp) _ h.scr (fun _ z => by cases z), h.scl, fun k z a h1 h2 => e _ (by simp [List.mem_of_getElem? h2]) _ (h.sc_ k z a h1 h2) (fun _ z => by cases z), h.nd, h.wf⟩
theorem MeetAt.kept {A : Ads} {H H' : Hp} {M : Addr} {m : MA} {s : Kg83.State} (h : MeetAt A H M m s) (e : ∀ b ∈ supp M m s, ∀ o, H b = some o → (∀ ps, o ≠ .tbl ps) → H' b = some o) (t : Tabs (tabO A) H') : MeetAt A H' M m s := by
  refine ⟨e _ List.mem_cons_self _ h.ins (fun _ z => by cases z), h.tp.kept fun b hb => e b ?_, h.tf, fun hr => (h.rnd hr).kept fun b hb => e b (rest_supp ?_), h.z0, h.num, t⟩
  · unfold supp
    rcases hb with z | z | z <;> simp [z]
  · unfold rest
    rw [if_neg hr]
    exact hb
theorem MeetAt.ext {A : Ads} {H H' : Hp} {M : Addr} {m : MA} {s : Kg83.State} (h : MeetAt A H M m s) (e : ExtN H H') (t : Tabs (tabO A) H') : MeetAt A H' M m s := h.kept (fun b _ o => e b o) t
theorem MeetAt.same {A : Ads} {H H' : Hp} {M : Addr} {m : MA} {s : Kg83.State} (h : MeetAt A H M m s) (e : Same H H') : MeetAt A H' M m s := h.ext (ExtN.same e) (h.tabs.ext e)
/-- a call's end: the meet is of s' then, all else is kept -/
structure MStep (A : Ads) (H : Hp) (M : Addr) (m : MA) (s : Kg83.State) (H' : Hp) (m' : MA) (s' : Kg83.State) : Prop where
  meet : MeetAt A H' M m' s'
  keep : ∀ b o, H b = some o → (∀ ps, o ≠ .tbl ps) → b ∉ foot M m s → H' b = some o
  supp : ∀ b o, H b = some o → (∀ ps, o ≠ .tbl ps) → b ∉ supp M m s → b ∉ Cm.supp M m' s'
  foots : ∀ b o, H b = some o → (∀ ps, o ≠ .tbl ps) → b ∉ foot M m s → b ∉ foot M m' s'
theorem MeetAt.step {A : Ads} {H H' : Hp} {M : Addr} {m : MA} {s : Kg83.State} (h : MeetAt A H M m s) (e : ExtN H H') (t : Tabs (tabO A) H') : MStep A H M m s H' m s := ⟨h.ext e t, fun b o q n _ => e b o q n, fun _ _ _ _ q => q, fun _ _ _ _ q => q⟩
theorem MeetAt.step0 {A : Ads} {H H' : Hp} {M : Addr} {m : MA} {s : Kg83.State} (h : MeetAt A H M m s) (e : Same H H') : MStep A H M m s H' m s := h.step (ExtN.same e) (h.tabs.ext e)
/-- a list just made -/
def NewL (H : Hp) (M : Addr) (m : MA) (s : Kg83.State) (L : Addr) : Prop := ∀ b o, H b = some o → (∀ ps, o ≠ .tbl ps) → b ∉ foot M m s → b ≠ L
/-- what a desk's def does: it answers as the specification says, or refuses so -/
structure Ends (A : Ads) (H : Hp) (M : Addr) (m : MA) (s : Kg83.State) (c : Kg83.Call) (Q : VK) (E : XK) : Prop where
  ret : ∀ H' m' L, MStep A H M m s H' m' (Kg83.spec s c).1 → H' L = some (.lst (((Kg83.spec s c).2.value :: (Kg83.spec s c).2.out).map V.int)) → NewL H M m s L → Q (.ref L) H'
  exc : ∀ z d H', Kg83.spec s c = (s, Kg83.num z) → MStep A H M m s H' m s → H' d = some (.xd (ansF z)) → E (.ref A.CRefused) (some d) H'
theorem Ends.ref {A : Ads} {H H1 : Hp} {M : Addr} {m : MA} {s : Kg83.State} {c : Kg83.Call} {Q : VK} {E : XK} {z : Int} (h : Ends A H M m s c Q E) (hM : MeetAt A H M m s) (hs : Kg83.spec s c = (s, Kg83.num z)) (e : ExtN H H1) (t : Tabs (tabO A) H1) : Ref A z E H1 := fun d H' s1 hd =>
  h.exc z d H' hs (hM.step (e.trans (ExtN.same s1)) (t.ext s1)) hd
theorem Ends.ref0 {A : Ads} {H H1 : Hp} {M : Addr} {m : MA} {s : Kg83.State} {c : Kg83.Call} {Q : VK} {E : XK} {z : Int} (h : Ends A H M m s c Q E) (hM : MeetAt A H M m s) (hs : Kg83.spec s c = (s, Kg83.num z)) (e : Same H H1) : Ref A z E H1 := h.ref hM hs (ExtN.same e) (hM.tabs.ext e)
theorem tabs_lst {A : Ads} {H : Hp} {L : Addr} {o u : HO} (t : Tabs (tabO A) H) (h : H L = some o) (n1 : ∀ ps, o ≠ .tbl ps) (n2 : ∀ c q, o ≠ CodeO c q) : Tabs (tabO A) (upd H L u) := fun p hp => by
  obtain ⟨ps, h1, h2, h3⟩ := t p hp
  refine ⟨ps, by rw [upd_ne (ne_of h1 h (fun z => n1 _ z.symm))]; exact h1, h2, fun pos cv hc => ?_⟩
  obtain ⟨c, e1, e2⟩ := h3 pos cv hc
  exact ⟨c, e1, by rw [upd_ne (ne_of e2 h (fun z => n2 _ _ z.symm))]; exact e2⟩
theorem lst_code {xs : List V} (c : Addr) (q : Str) : HO.lst xs ≠ CodeO c q := fun z => by
  unfold CodeO at z
  cases z
theorem ins_code {C dx : Addr} {fs : List (Str × V)} (c : Addr) (q : Str) : HO.ins C dx fs ≠ CodeO c q := fun z => by
  unfold CodeO at z
  cases z
theorem MeetAt.tnM {A : Ads} {H : Hp} {M : Addr} {m : MA} {s : Kg83.State} (h : MeetAt A H M m s) : m.tn ≠ M := ne_of h.tp.t1 h.ins (by
  intro z
  injection z with _ _ z
  exact absurd (congrArg List.length z) (by show ¬ 1 = 4; decide))
theorem MeetAt.trM {A : Ads} {H : Hp} {M : Addr} {m : MA} {s : Kg83.State} (h : MeetAt A H M m s) {b : Addr} (hb : b = m.tn ∨ b = m.tR ∨ b ∈ m.trs) : b ≠ M := by
  rcases hb with z | z | z
  · rw [z]
    exact h.tnM
  · rw [z]
    exact ne_of h.tp.t2 h.ins (by intro z; cases z)
  · obtain ⟨f, hf⟩ := List.mem_iff_getElem?.mp z
    exact ne_of (h.tp.t4 f b hf) h.ins (by intro z; cases z)
theorem nI_toNat {n : Int} (h : 0 ≤ n) : nI n.toNat = .int n := by
  show V.int _ = _
  rw [Int.toNat_of_nonneg h]
theorem within_iff {a b c : Int} : Kg83.within a b c = true ↔ b ≤ a ∧ a ≤ c := by
  unfold Kg83.within
  simp
theorem NewL.of {H H1 : Hp} {M : Addr} {m : MA} {s : Kg83.State} {L : Addr} (e : ∀ b o, H b = some o → (∀ ps, o ≠ .tbl ps) → b ∉ foot M m s → H1 b = some o) (n : H1 L = none) : NewL H M m s L := fun b o q hn hb => ne_of_none (e b o q hn hb) n
section
variable {P : Program} {w : World} {K : PySem.W.Frag} {mg : Str → Option Value} {base : Heap} {A : Ads}
/-! Meet() -/
def spMeetI (A : Ads) : Sp := fun vs H Q _ => ∃ (p dx : Addr), vs = [.ref p] ∧ H p = some (.ins A.CMeet dx []) ∧ Tabs (tabO A) H ∧ ∀ H' m, MeetAt A H' p m Kg83.init → (∀ b o, H b = some o → b ≠ p → H' b = some o) → Q .non H'
theorem sc_Meet_init : FnScope ["self"] ["self"] (defScope s_Meet_init) := ⟨rfl, rfl, rfl, by decide +kernel, rfl, by decide +kernel, by decide +kernel⟩
theorem ok_Meet_init (T : Txt K mg A) : Has P w K mg base CX0 6 A.Meet_init ["self"] (spMeetI A) := by
  refine T.f_Meet_init.ok sc_Meet_init (fun vs H Q E h => ?_) (fun cdv Ar outer s0 H vs Q E hr h => ?_)
  · obtain ⟨_, _, rfl, _⟩ := h
    rfl
  obtain ⟨p, dx, rfl, hp, hT, k⟩ := h
  have G_Turns := ok_Turns_init (P := P) (w := w) (base := base) T
  refine ⟨_, (pss_cons (ps_fld (pv 0) (pe_mk0 T.k_Turns G_Turns (hr.mono (by decide)) rfl T.g_Turns pass0) rfl)
    (pss_cons (ps_fld (pv 0) pe_int rfl)
    (pss_cons (ps_fld (pv 0) pe_int rfl)
    (pss_one (ps_fld (pv 0) pe_non rfl))))), ?_⟩
  refine fun t tdx nt ntd ne => ⟨t, tdx, rfl, upd_same, fun H1 kp ht => ⟨rfl, ?_⟩⟩
  have tp : p ≠ t := ne_of_none hp nt
  have td : p ≠ tdx := ne_of_none hp ntd
  have hp1 : H1 p = some (.ins A.CMeet dx []) := kp _ _ (by rw [upd_ne tp, upd_ne td]; exact hp) tp
  refine ⟨_, rfl, p, A.CMeet, dx, _, rfl, hp1, T.c_Meet, T.n_Meet_turns, (by show 0 < 1000; decide), ?_⟩
  refine ⟨_, rfl, p, A.CMeet, dx, _, rfl, upd_same, T.c_Meet, T.n_Meet_competitors, (by show 1 < 1000; decide), ?_⟩
  refine ⟨_, rfl, p, A.CMeet, dx, _, rfl, upd_same, T.c_Meet, T.n_Meet_rounds, (by show 2 < 1000; decide), ?_⟩
  refine ⟨_, rfl, p, A.CMeet, dx, _, rfl, upd_same, T.c_Meet, T.n_Meet_current, (by show 3 < 1000; decide), ?_⟩
  rw [upd_upd, upd_upd, upd_upd]
  obtain ⟨dx2, R, rs, h1, h2, h3, h4⟩ := ht
  have old : ∀ b o, H b = some o → H1 b = some o := fun b o e => kp b o (by rw [upd_ne (ne_of_none e nt), upd_ne (ne_of_none e ntd)]; exact e) (ne_of_none e nt)
  refine k _ ⟨dx, t, dx2, R, rs, 0, ⟨0, 0, 0, 0, [], []⟩⟩ ⟨upd_same, ⟨(upd_ne tp.symm).trans h1, (upd_ne (ne_of h2 hp1 (by intro z; cases z))).trans h2, h3, fun f r hr => (upd_ne (ne_of (h4 f r hr) hp1 (by intro z; cases z))).trans (h4 f r hr)⟩, (fun a _ z => by cases (show a ∈ ([] : List Addr) from z)), fun z => absurd rfl z, fun _ => rfl, (by decide), ?_⟩ (fun b o e hb => (upd_ne hb).trans (old b o e))
  exact tabs_lst (hT.ext old) hp1 (fun _ z => by cases z) ins_code
/-! begin -/
def spBegin (A : Ads) : Sp := fun vs H Q E => ∃ (M : Addr) (m : MA) (s : Kg83.State) (n : Int), vs = [.ref M, .int n] ∧ MeetAt A H M m s ∧ Ends A H M m s (.begin_ n) Q E
theorem sc_begin : FnScope ["meet", "competitors"] ["meet", "competitors"] (defScope s_begin) := ⟨rfl, rfl, rfl, by decide +kernel, rfl, by decide +kernel, by decide +kernel⟩
theorem ok_begin (T : Txt K mg A) : Has P w K mg base (L2.CX P w) 6 A.begin ["meet", "competitors"] (spBegin A) := by
  refine T.f_begin.okX sc_begin (fun vs H Q E h => ?_) (fun cdv Ar outer s0 H vs Q E hr h => ?_)
  · obtain ⟨_, _, _, _, rfl, _⟩ := h
    rfl
  obtain ⟨M, m, s, n, rfl, hM, k⟩ := h
  have G_must := ok_must (P := P) (w := w) (base := base) T
  have G_is_within := ok_is_within (P := P) (w := w) (base := base) T
  have px := passes_call (X := cxOf (L2.CX P w) P w K mg base ["meet", "competitors"] "begin" (defScope s_begin) A.begin cdv Ar outer s0 H E) (takes_of rfl rfl rfl rfl) (fun _ _ _ _ h => h)
  obtain ⟨_, g_MOST_COMPETITORS⟩ := T.i_MOST_COMPETITORS
  refine ⟨_, (pss_cons (ps_expr (pe_c G_must (hr.mono (by decide)) rfl T.g_must px (pa_cons (pe_c G_is_within (hr.mono (by decide)) rfl T.g_is_within pass0 (pa_cons (pv 1) (pa_cons pe_int (pa_cons (pe_gi rfl g_MOST_COMPETITORS) pa_nil)))) (pa_cons (pe_un un_neg pe_int) pa_nil))))
    (pss_cons (ps_fld (pv 0) (pv 1) rfl)
    (pss_cons (ps_fld (pv 0) pe_int rfl)
    (pss_cons (ps_fld (pv 0) pe_non rfl)
    (pss_one (ps_ret (pe_lst (pa_cons (pv 1) pa_nil)))))))), ?_⟩
  refine ⟨_, rfl, n, 1, 40, rfl, _, rfl, _, _, rfl, fun hw => ?_, fun hw => ?_⟩
  · refine ⟨_, rfl, _, rfl, M, A.CMeet, m.dx, _, rfl, hM.ins, T.c_Meet, T.n_Meet_competitors, (by show 4 < 1000; decide), ?_⟩
    refine ⟨_, rfl, M, A.CMeet, m.dx, _, rfl, upd_same, T.c_Meet, T.n_Meet_rounds, (by show 4 < 1000; decide), ?_⟩
    refine ⟨_, rfl, M, A.CMeet, m.dx, _, rfl, upd_same, T.c_Meet, T.n_Meet_current, (by show 4 < 1000; decide), ?_⟩
    rw [upd_upd, upd_upd]
    obtain ⟨w1, w2⟩ := within_iff.mp hw
    have e4 : putF "current" V.non (putF "rounds" (.int 0) (putF "competitors" (.int n) (mF m s))) = mF m { Kg83.init with number := n.toNat } := by
      show ([("turns", .ref m.tn), ("competitors", .int n), ("rounds", .int 0), ("current", .non)] : List (Str × V)) = ([("turns", .ref m.tn), ("competitors", nI n.toNat), ("rounds", nI 0), ("current", .non)] : List (Str × V))
      rw [nI_toNat (by omega)]
      rfl
    rw [e4]
    refine ⟨_, rfl, (by show 1 ≤ sizeLine; decide), fun L nL => ?_⟩
    have es : Kg83.spec s (.begin_ n) = ({ Kg83.init with number := n.toNat }, Kg83.num n) := by
      show (if Kg83.within n 1 40 = false then _ else _) = _
      rw [if_neg (by rw [hw]; decide)]
    have keep : ∀ b o, H b = some o → (∀ ps, o ≠ .tbl ps) → b ∉ foot M m s → upd H M (.ins A.CMeet m.dx (mF m { Kg83.init with number := n.toNat })) b = some o := fun b o q _ hb => by
      rw [upd_ne (fun z => hb (by rw [z]; exact List.mem_cons_self))]
      exact q
    have sL : Same (upd H M (.ins A.CMeet m.dx (mF m { Kg83.init with number := n.toNat }))) (upd (upd H M (.ins A.CMeet m.dx (mF m { Kg83.init with number := n.toNat }))) L (.lst [.int n])) := Same.new nL
    refine k.ret _ m L ?_ (by rw [es]; exact upd_same) (NewL.of keep nL)
    rw [es]
    refine ⟨⟨sL _ _ upd_same, hM.tp.kept fun b hb o q _ => sL _ _ (by rw [upd_ne (hM.trM hb)]; exact q), fun a _ => ?_, fun z => absurd rfl z, fun _ => rfl, ?_, ?_⟩, fun b o q n hb => sL _ _ (keep b o q n hb), fun b _ _ _ hb hb2 => hb ?_, fun b _ _ _ hb hb2 => hb ?_⟩
    · exact fun z => nomatch (show a ∈ ([] : List Addr) from z)
    · show n.toNat ≤ 40
      omega
    · exact (tabs_lst hM.tabs hM.ins (fun _ z => by cases z) ins_code).ext sL
    · unfold supp at hb2 ⊢
      have z : b ∈ M :: m.tn :: m.tR :: (m.trs ++ []) := hb2
      simp at z ⊢
      rcases z with z | z | z | z <;> simp [z]
    · have z : b ∈ [M] := hb2
      rw [List.mem_singleton.mp z]
      exact List.mem_cons_self
  · exact k.ref0 hM (by show (if _ then _ else _) = _; rw [if_pos hw]) (fun _ _ e => e)
end
end Cm
namespace Cm
open PySem PySem.Spec PyProof.Rows L2 LamX
section
variable {P : Program} {w : World} {K : PySem.W.Frag} {mg : Str → Option Value} {base : Heap} {A : Ads}
theorem okMoves_nats {l : List Int} {n : Nat} (h : Kg83.okMoves l n = true) : l.map V.int = (Kg83.nats l).map nI ∧ (∀ z ∈ Kg83.nats l, z < 18) ∧ l.length ≤ n := by
  unfold Kg83.okMoves at h
  obtain ⟨h1, h2⟩ := Bool.and_eq_true_iff.mp h
  rw [List.all_eq_true] at h1
  refine ⟨?_, fun z hz => ?_, of_decide_eq_true h2⟩
  · unfold Kg83.nats
    rw [List.map_map]
    refine List.map_congr_left fun z hz => ?_
    obtain ⟨q, _⟩ := within_iff.mp (h1 z hz)
    exact (nI_toNat q).symm
  · obtain ⟨y, hy, rfl⟩ := List.mem_map.mp hz
    obtain ⟨q1, q2⟩ := within_iff.mp (h1 y hy)
    omega
theorem wholeV (q : List Nat) : (Kg83.whole q).map V.int = q.map nI := by
  unfold Kg83.whole
  rw [List.map_map]
  rfl
/-! cube -/
def spCube (K : PySem.W.Frag) (A : Ads) : Sp := fun vs H Q E => ∃ (M : Addr) (m : MA) (s : Kg83.State) (a : Addr) (l : List Int), vs = [.ref M, .ref a] ∧ MeetAt A H M m s ∧ H a = some (.lst (l.map V.int)) ∧ l.length ≤ 1000 ∧ Ends A H M m s (.cube l) Q E
theorem sc_cube : FnScope ["meet", "moves", "colours"] ["meet", "moves"] (defScope s_cube) := ⟨rfl, rfl, rfl, by decide +kernel, rfl, by decide +kernel, by decide +kernel⟩
theorem ok_cube (T : Txt K mg A) : Has P w K mg base (L2.CX P w) 6 A.cube ["meet", "moves"] (spCube K A) := by
  refine T.f_cube.okX sc_cube (fun vs H Q E h => ?_) (fun cdv Ar outer s0 H vs Q E hr h => ?_)
  · obtain ⟨_, _, _, _, _, rfl, _⟩ := h
    rfl
  obtain ⟨M, m, s, a, l, rfl, hM, ha, hl, k⟩ := h
  have G_must := ok_must (P := P) (w := w) (base := base) T
  have G_are_moves := ok_are_moves (P := P) (w := w) (base := base) T
  have G_moved := ok_moved (P := P) (w := w) (base := base) T
  have G_solved_cube := ok_solved_cube (P := P) (w := w) (base := base) T
  have G_is_solved := ok_is_solved (P := P) (w := w) (base := base) T
  have px := passes_call (X := cxOf (L2.CX P w) P w K mg base ["meet", "moves", "colours"] "cube" (defScope s_cube) A.cube cdv Ar outer s0 H E) (takes_of rfl rfl rfl rfl) (fun _ _ _ _ h => h)
  obtain ⟨_, g_MOST_MOVES_desks⟩ := T.i_MOST_MOVES_desks
  refine ⟨_, (pss_cons (ps_expr (pe_c G_must (hr.mono (by decide)) rfl T.g_must px (pa_cons (pe_c G_are_moves (hr.mono (by decide)) rfl T.g_are_moves pass0 (pa_cons (pv 1) (pa_cons (pe_gi rfl g_MOST_MOVES_desks) pa_nil))) (pa_cons (pe_un un_neg pe_int) pa_nil))))
    (pss_cons (ps_set (i := 2) sc_cube.nd rfl (Or.inl rfl) (pe_m (pe_fld (pv 0) rfl) T.c_Turns T.m_Turns_moved G_moved (hr.mono (by decide)) pass0 (pa_cons (pe_c0 G_solved_cube (hr.mono (by decide)) rfl T.g_solved_cube pass0) (pa_cons (pv 1) pa_nil))))
    (pss_one (ps_ret (pe_op op_cat (pe_lst (pa_cons (pe_callTy call_int1 (by rfl) T.b_int (by decide +kernel) (pa_cons (pe_c G_is_solved (hr.mono (by decide)) rfl T.g_is_solved pass0 (pa_cons (pv 2) pa_nil)) pa_nil)) pa_nil)) (pv 2)))))), ?_⟩
  refine ⟨_, rfl, a, l, 60, rfl, SqL.of ha, hl, fun H1 s1 => ⟨_, rfl, _, _, rfl, fun hw => ?_, fun hw => ?_⟩⟩
  · refine ⟨_, rfl, M, A.CMeet, m.dx, _, _, rfl, s1 _ _ hM.ins, T.c_Meet, T.n_Meet_turns, mF_turns m s, m.tn, m.tdx, _, rfl, s1 _ _ hM.tp.t1, rfl, ?_⟩
    obtain ⟨el, e18, _⟩ := okMoves_nats hw
    refine ⟨rfl, fun H2 q s2 hq => ⟨_, rfl, m.tn, q, a, Kg83.solved, Kg83.nats l, rfl, hM.tp.at_.same (s1.trans s2), hq, (by decide), SqL.of (by rw [← el]; exact s2 _ _ (s1 _ _ ha)), e18, fun H3 c s3 hc => ?_⟩⟩
    have s13 := (s1.trans s2).trans s3
    refine ⟨_, rfl, c, _, rfl, hc, fun H4 s4 => .inr ⟨_, rfl, (by show 1 ≤ sizeLine; decide), fun p np => ?_⟩⟩
    have s5 : Same H4 (upd H4 p (.lst [.int (if Kg83.isSolved (Kg83.moves Kg83.solved (Kg83.nats l)) = true then 1 else 0)])) := Same.new np
    refine ⟨_, rfl, p, c, _, _, rfl, rfl, upd_same, s5 _ _ (s4 _ _ hc), ?_, fun L nL => ?_⟩
    · rw [List.length_map, moves_length _ _ (by decide), sizeLine_eq]
      show 1 + 54 ≤ 16777216
      decide
    have sL := (s13.trans s4).trans s5
    have es : Kg83.spec s (.cube l) = (s, ⟨Kg83.truth (Kg83.isSolved (Kg83.moves Kg83.solved (Kg83.nats l))), Kg83.whole (Kg83.moves Kg83.solved (Kg83.nats l))⟩) := by
      show (if _ then _ else _) = _
      rw [if_neg (by rw [hw]; decide)]
    refine k.ret _ m L ?_ ?_ (NewL.of (fun b o e _ _ => sL b o e) nL)
    · rw [es]
      exact hM.step0 (sL.trans (Same.new nL))
    · rw [es, upd_same, List.map_cons, wholeV]
      rfl
  · exact k.ref0 hM (by show (if _ then _ else _) = _; rw [if_pos hw]) s1
/-! solves -/
def spSolves (K : PySem.W.Frag) (A : Ads) : Sp := fun vs H Q E => ∃ (M : Addr) (m : MA) (s : Kg83.State) (a b : Addr) (l r : List Int), vs = [.ref M, .ref a, .ref b] ∧ MeetAt A H M m s ∧ H a = some (.lst (l.map V.int)) ∧ l.length ≤ 1000 ∧ H b = some (.lst (r.map V.int)) ∧ r.length ≤ 1000 ∧ Ends A H M m s (.solves l r) Q E
theorem sc_solves : FnScope ["meet", "first", "second"] ["meet", "first", "second"] (defScope s_solves) := ⟨rfl, rfl, rfl, by decide +kernel, rfl, by decide +kernel, by decide +kernel⟩
theorem ok_solves (T : Txt K mg A) : Has P w K mg base (L2.CX P w) 6 A.solves ["meet", "first", "second"] (spSolves K A) := by
  refine T.f_solves.okX sc_solves (fun vs H Q E h => ?_) (fun cdv Ar outer s0 H vs Q E hr h => ?_)
  · obtain ⟨_, _, _, _, _, _, _, rfl, _⟩ := h
    rfl
  obtain ⟨M, m, s, a, b, l, r, rfl, hM, ha, hl, hb, hr2, k⟩ := h
  have G_must := ok_must (P := P) (w := w) (base := base) T
  have G_are_moves := ok_are_moves (P := P) (w := w) (base := base) T
  have G_moved := ok_moved (P := P) (w := w) (base := base) T
  have G_solved_cube := ok_solved_cube (P := P) (w := w) (base := base) T
  have G_is_solved := ok_is_solved (P := P) (w := w) (base := base) T
  have px := passes_call (X := cxOf (L2.CX P w) P w K mg base ["meet", "first", "second"] "solves" (defScope s_solves) A.solves cdv Ar outer s0 H E) (takes_of rfl rfl rfl rfl) (fun _ _ _ _ h => h)
  obtain ⟨_, g_MOST_MOVES_desks⟩ := T.i_MOST_MOVES_desks
  refine ⟨_, (pss_cons (ps_expr (pe_c G_must (hr.mono (by decide)) rfl T.g_must px (pa_cons (pe_and (pe_c G_are_moves (hr.mono (by decide)) rfl T.g_are_moves pass0 (pa_cons (pv 1) (pa_cons (pe_gi rfl g_MOST_MOVES_desks) pa_nil))) (pe_one (pe_c G_are_moves (hr.mono (by decide)) rfl T.g_are_moves pass0 (pa_cons (pv 2) (pa_cons (pe_gi rfl g_MOST_MOVES_desks) pa_nil))))) (pa_cons (pe_un un_neg pe_int) pa_nil))))
    (pss_one (ps_ret (pe_lst (pa_cons (pe_callTy call_int1 (by rfl) T.b_int (by decide +kernel) (pa_cons (pe_c G_is_solved (hr.mono (by decide)) rfl T.g_is_solved pass0 (pa_cons (pe_m (pe_fld (pv 0) rfl) T.c_Turns T.m_Turns_moved G_moved (hr.mono (by decide)) pass0 (pa_cons (pe_c0 G_solved_cube (hr.mono (by decide)) rfl T.g_solved_cube pass0) (pa_cons (pe_op op_cat (pv 1) (pv 2)) pa_nil))) pa_nil)) pa_nil)) pa_nil))))), ?_⟩
  have es0 : (Kg83.okMoves l 60 && Kg83.okMoves r 60) = false → Kg83.spec s (.solves l r) = (s, Kg83.num (-1)) := fun hw => by
    show (if _ then _ else _) = _
    rw [if_pos hw]
  refine ⟨_, rfl, a, l, 60, rfl, SqL.of ha, hl, fun H1 s1 => ⟨_, rfl, ?_⟩⟩
  by_cases h1 : Kg83.okMoves l 60 = true
  · refine ifT h1 ⟨_, rfl, b, r, 60, rfl, SqL.of (s1 _ _ hb), hr2, fun H2 s2 => ⟨_, rfl, _, _, rfl, fun h2 => ?_, fun hw => ?_⟩⟩
    · have s12 := s1.trans s2
      obtain ⟨el, e18, el3⟩ := okMoves_nats h1
      obtain ⟨er, r18, er3⟩ := okMoves_nats h2
      have en : Kg83.nats (l ++ r) = Kg83.nats l ++ Kg83.nats r := by
        unfold Kg83.nats
        rw [List.map_append]
      refine ⟨_, rfl, M, A.CMeet, m.dx, _, _, rfl, s12 _ _ hM.ins, T.c_Meet, T.n_Meet_turns, mF_turns m s, m.tn, m.tdx, _, rfl, s12 _ _ hM.tp.t1, rfl, ?_⟩
      refine ⟨rfl, fun H3 q s3 hq => ⟨_, rfl, _, rfl, a, b, _, _, rfl, rfl, s3 _ _ (s12 _ _ ha), s3 _ _ (s12 _ _ hb), ?_, fun p np => ?_⟩⟩
      · rw [List.length_map, List.length_map, sizeLine_eq]
        omega
      have s4 : Same H3 (upd H3 p (.lst (l.map V.int ++ r.map V.int))) := Same.new np
      refine ⟨m.tn, q, p, Kg83.solved, Kg83.nats l ++ Kg83.nats r, rfl, hM.tp.at_.same ((s12.trans s3).trans s4), s4 _ _ hq, (by decide), SqL.of (by rw [List.map_append, ← el, ← er]; exact upd_same), fun z hz => (List.mem_append.mp hz).elim (e18 z) (r18 z), fun H5 c s5 hc => ?_⟩
      have s15 := ((s12.trans s3).trans s4).trans s5
      rw [moves_append] at hc
      refine ⟨c, _, rfl, hc, fun H6 s6 => .inr ⟨_, rfl, (by show 1 ≤ sizeLine; decide), fun L nL => ?_⟩⟩
      have es : Kg83.spec s (.solves l r) = (s, Kg83.num (Kg83.truth (Kg83.isSolved (Kg83.moves (Kg83.moves Kg83.solved (Kg83.nats l)) (Kg83.nats r))))) := by
        show (if _ then _ else _) = _
        rw [if_neg (by rw [h1, h2]; decide)]
      refine k.ret _ m L ?_ ?_ (NewL.of (fun b o e _ _ => s6 _ _ (s15 b o e)) nL)
      · rw [es]
        exact hM.step0 ((s15.trans s6).trans (Same.new nL))
      · rw [es, upd_same]
        rfl
    · exact k.ref0 hM (es0 (by rw [h1, hw]; rfl)) (s1.trans s2)
  · have h1' : Kg83.okMoves l 60 = false := by simpa using h1
    refine ifF h1' ⟨_, rfl, _, _, rfl, (fun hw => by cases hw), fun _ => k.ref0 hM (es0 (by rw [h1']; rfl)) s1⟩
end
end Cm
namespace Cm
open PySem PySem.Spec PyProof.Rows L2 LamX
theorem curV_no {m : MA} {s : Kg83.State} (h : s.round = 0) : curV m s = .non := by
  unfold curV
  rw [if_pos h]
theorem curV_yes {m : MA} {s : Kg83.State} (h : s.round ≠ 0) : curV m s = .ref m.r := by
  unfold curV
  rw [if_neg h]
theorem inV_in {s : Kg83.State} {i : Int} (h : 0 ≤ i) : inV (.int i) (s.inIt.map nI) = Kg83.isIn s i := by
  rw [mapNI, inV_ints, Bool.eq_iff_iff, decide_eq_true_eq]
  unfold Kg83.isIn
  rw [decide_eq_true h, Bool.true_and, List.contains_iff_mem]
  constructor
  · intro z
    obtain ⟨n, hn, e⟩ := List.mem_map.mp z
    rw [show i.toNat = n by omega]
    exact hn
  · intro z
    exact List.mem_map.mpr ⟨i.toNat, z, by omega⟩
theorem flat_nats (l : List Nat) : (l.map nI).all flatV = true := by
  rw [mapNI]
  exact flat_ints _
theorem result_nil (k : Nat) : Kg83.opt (Kg83.result k []) = -1 := by
  unfold Kg83.result
  split
  · rfl
  · split <;> rfl
section
variable {P : Program} {w : World} {K : PySem.W.Frag} {mg : Str → Option Value} {base : Heap} {A : Ads}
/-! card -/
def spCard (A : Ads) : Sp := fun vs H Q E => ∃ (M : Addr) (m : MA) (s : Kg83.State) (i : Int), vs = [.ref M, .int i] ∧ MeetAt A H M m s ∧ Ends A H M m s (.card i) Q E
theorem sc_card : FnScope ["meet", "i", "current", "some"] ["meet", "i"] (defScope s_card) := ⟨rfl, rfl, rfl, by decide +kernel, rfl, by decide +kernel, by decide +kernel⟩
theorem ok_card (T : Txt K mg A) : Has P w K mg base (L2.CX P w) 6 A.card ["meet", "i"] (spCard A) := by
  refine T.f_card.okX sc_card (fun vs H Q E h => ?_) (fun cdv Ar outer s0 H vs Q E hr h => ?_)
  · obtain ⟨_, _, _, _, rfl, _⟩ := h
    rfl
  obtain ⟨M, m, s, i, rfl, hM, k⟩ := h
  have G_must := ok_must (P := P) (w := w) (base := base) T
  have G_is_within := ok_is_within (P := P) (w := w) (base := base) T
  have G_may_have := ok_may_have (P := P) (w := w) (base := base) T
  have G_best := ok_best (P := P) (w := w) (base := base) T
  have G_result := ok_result (P := P) (w := w) (base := base) T
  have px := passes_call (X := cxOf (L2.CX P w) P w K mg base ["meet", "i", "current", "some"] "card" (defScope s_card) A.card cdv Ar outer s0 H E) (takes_of rfl rfl rfl rfl) (fun _ _ _ _ h => h)
  obtain ⟨_, g_NONE⟩ := T.i_NONE
  refine ⟨_, (pss_cons (ps_expr (pe_c G_must (hr.mono (by decide)) rfl T.g_must px (pa_cons (pe_c G_is_within (hr.mono (by decide)) rfl T.g_is_within pass0 (pa_cons (pv 1) (pa_cons pe_int (pa_cons (pe_op op_sub (pe_fld (pv 0) rfl) pe_int) pa_nil)))) (pa_cons (pe_un un_neg pe_int) pa_nil))))
    (pss_cons (ps_set (i := 2) sc_card.nd rfl (Or.inl rfl) (pe_fld (pv 0) rfl))
    (pss_cons (ps_if (PW.pt (pw_or (pt_cmpR op_isN (pv 2) pe_non (nomark _)) (pw_or1 (pt_cmpR op_notIn_seq (pv 1) (pe_fld (pv 2) rfl) (by rfl))))) (pss_one (ps_ret (pe_lst (pa_cons pe_int (pa_cons pe_int (pa_cons pe_int (pa_cons (pe_gi rfl g_NONE) (pa_cons (pe_gi rfl g_NONE) pa_nil)))))))) pss_nil)
    (pss_cons (ps_set (i := 3) sc_card.nd rfl (Or.inl rfl) (pe_dget (hu_of hr) (pe_fld (pv 2) rfl) (pv 1) (fun _ _ => rfl)))
    (pss_one (ps_ret (pe_op op_cat (pe_lst (pa_cons (pe_callB call_len_seq (by rfl) T.b_len PySem.boot_len (pa_cons (pv 3) pa_nil)) (pa_cons pe_int (pa_cons (pe_m (pv 2) T.c_Round T.m_Round_may_have G_may_have (hr.mono (by decide)) pass0 (pa_cons (pv 1) pa_nil)) (pa_cons (pe_m (pv 2) T.c_Round T.m_Round_best G_best (hr.mono (by decide)) pass0 (pa_cons (pv 1) pa_nil)) (pa_cons (pe_m (pv 2) T.c_Round T.m_Round_result G_result (hr.mono (by decide)) pass0 (pa_cons (pv 1) pa_nil)) pa_nil)))))) (pv 3)))))))), ?_⟩
  have ew : Kg83.within i 0 ((s.number : Int) - 1) = (decide (0 ≤ i) && decide (i < (s.number : Int))) := by
    unfold Kg83.within
    congr 1
    rw [decide_eq_decide]
    omega
  refine ⟨_, rfl, _, rfl, M, A.CMeet, m.dx, _, _, rfl, hM.ins, T.c_Meet, T.n_Meet_competitors, mF_competitors m s, _, _, rfl, rfl, i, 0, _, rfl, _, rfl, _, _, rfl, fun hw => ?_, fun hw => ?_⟩
  · rw [ew] at hw
    have es : Kg83.spec s (.card i) = (s, ⟨(s.triesOf i.toNat).length, [Kg83.truth (Kg83.isIn s i), (if Kg83.isIn s i = true then (s.allowed i.toNat : Int) else 0), Kg83.opt (Kg83.least (s.triesOf i.toNat)), Kg83.opt (Kg83.result s.kind (s.triesOf i.toNat))] ++ (s.triesOf i.toNat).map Kg83.opt⟩) := by
      show (if _ then _ else _) = _
      rw [if_neg (by rw [hw]; decide)]
    obtain ⟨i0, iN⟩ := Bool.and_eq_true_iff.mp hw
    have i0 := of_decide_eq_true i0
    have none_ : Kg83.isIn s i = false → s.triesOf i.toNat = [] → ∀ H1 L, Same H H1 → H1 L = none → Q (.ref L) (upd H1 L (.lst [.int 0, .int 0, .int 0, .int (-1), .int (-1)])) := fun h1 h2 H1 L s1 nL => by
      refine k.ret _ m L ?_ ?_ (NewL.of (fun b o e _ _ => s1 b o e) nL)
      · rw [es]
        exact hM.step0 (s1.trans (Same.new nL))
      · rw [es, upd_same, h1, h2, result_nil]
        rfl
    refine ⟨_, rfl, M, A.CMeet, m.dx, _, _, rfl, hM.ins, T.c_Meet, T.n_Meet_current, mF_current m s, ?_⟩
    by_cases h0 : s.round = 0
    · rw [curV_no h0]
      have ez := hM.z0 h0
      have e1 : s.inIt = [] := by rw [ez]; rfl
      have e2 : s.tries = [] := by rw [ez]; rfl
      refine ⟨_, rfl, rfl, _, rfl, dT rfl (iteT ⟨(by show 5 ≤ sizeLine; decide), fun L nL => none_ ?_ ?_ H L (fun _ _ e => e) nL⟩)⟩
      · unfold Kg83.isIn
        rw [e1]
        simp
      · unfold Kg83.State.triesOf
        rw [e2]
        rfl
    rw [curV_yes h0]
    have hR := hM.rnd h0
    refine ⟨_, rfl, rfl, _, rfl, dF (by intro z; cases z) ⟨_, rfl, _, rfl, m.r, A.CRound, m.R.dx, _, _, rfl, hR.ins, T.c_Round, T.n_Round_members, rF_members s m.R, m.R.mem, _, rfl, .inl (SqL.of hR.mem), rfl, flat_nats _, _, rfl, ?_⟩⟩
    rw [inV_in i0]
    by_cases hin : Kg83.isIn s i = true
    · have hmem : i.toNat ∈ s.inIt := by
        unfold Kg83.isIn at hin
        exact List.contains_iff_mem.mp (Bool.and_eq_true_iff.mp hin).2
      obtain ⟨_, a, _, _, hg, ha⟩ := hR.get hmem
      rw [nI_toNat i0] at hg
      refine ifF (by rw [hin]; rfl) ?_
      refine ⟨_, rfl, m.r, A.CRound, m.R.dx, _, _, rfl, hR.ins, T.c_Round, T.n_Round_attempts, rF_attempts s m.R, _, rfl, m.R.att, .ref a, rfl, hg, ?_⟩
      refine ⟨_, rfl, a, _, rfl, .inl (SqL.of ha), _, rfl, m.r, m.R.dx, _, rfl, hR.ins, rF_may s m.R, _, rfl, m.r, m.R, s, i.toNat, (by rw [nI_toNat i0]), hR, hmem, fun H1 s1 => ?_⟩
      refine ⟨_, rfl, m.r, m.R.dx, _, rfl, s1 _ _ hR.ins, rF_best s m.R, _, rfl, m.r, m.R, s, i.toNat, (by rw [nI_toNat i0]), hR.same s1, hmem, fun H2 s2 => ?_⟩
      have s12 := s1.trans s2
      refine ⟨_, rfl, m.r, m.R.dx, _, rfl, s12 _ _ hR.ins, rF_result s m.R, _, rfl, m.r, m.R, s, i.toNat, (by rw [nI_toNat i0]), hR.same s12, hmem, fun H3 s3 => ?_⟩
      have s13 := s12.trans s3
      refine ⟨(by show 5 ≤ sizeLine; decide), fun p np => ?_⟩
      refine ⟨_, rfl, p, a, _, _, rfl, rfl, upd_same, Same.new np _ _ (s13 _ _ ha), ?_, fun L nL => ?_⟩
      · rw [List.length_map, sizeLine_eq]
        have := hR.wf.len5 i.toNat
        show 5 + _ ≤ _
        omega
      refine k.ret _ m L ?_ ?_ (NewL.of (fun b o e _ _ => Same.new np _ _ (s13 b o e)) nL)
      · rw [es]
        exact hM.step0 ((s13.trans (Same.new np)).trans (Same.new nL))
      · rw [es, upd_same, List.length_map]
        show some (HO.lst _) = some (HO.lst (List.map V.int (_ :: ([Kg83.truth (Kg83.isIn s i), if Kg83.isIn s i = true then (s.allowed i.toNat : Int) else 0, _, _] ++ _))))
        rw [hin, if_pos rfl, List.map_cons, List.map_append, mapTI]
        rfl
    · have hin' : Kg83.isIn s i = false := by simpa using hin
      refine ifT (by rw [hin']; rfl) ⟨(by show 5 ≤ sizeLine; decide), fun L nL => none_ hin' (hR.wf.out _ fun z => hin ?_) H L (fun _ _ e => e) nL⟩
      unfold Kg83.isIn
      rw [decide_eq_true i0, Bool.true_and]
      exact List.contains_iff_mem.mpr z
  · rw [ew] at hw
    exact k.ref0 hM (by show (if _ then _ else _) = _; rw [if_pos hw]) (fun _ _ e => e)
end
end Cm
namespace Cm
open PySem PySem.Spec PyProof.Rows L2 LamX
/-- a scramble more -/
theorem MeetAt.scram {A : Ads} {H : Hp} {M : Addr} {m : MA} {s : Kg83.State} (hM : MeetAt A H M m s) (h0 : s.round ≠ 0) (h3 : s.scrambles.length < 3) {c : Addr} (nc : H c = none) {z : List Nat} (hz : z.length ≤ 30 ∧ ∀ x ∈ z, x < 18) :
    MeetAt A (upd (upd H c (.lst (z.map nI))) m.R.sc (.lst (m.R.scs.map V.ref ++ [.ref c]))) M { m with R := { m.R with scs := m.R.scs ++ [c] } } { s with scrambles := s.scrambles ++ [z] } := by
  have hR := hM.rnd h0
  have wf := hR.wf
  have keep : ∀ b o, H b = some o → b ≠ m.R.sc → upd (upd H c (.lst (z.map nI))) m.R.sc (.lst (m.R.scs.map V.ref ++ [.ref c])) b = some o := fun b o e hb => by
    rw [upd_ne hb]
    exact Same.new nc _ _ e
  obtain ⟨nd1, nd2⟩ := List.nodup_cons.mp hR.nd
  have csc : c ≠ m.R.sc := (ne_of_none hR.scr nc).symm
  have hmut : mutA { m with R := { m.R with scs := m.R.scs ++ [c] } } { s with scrambles := s.scrambles ++ [z] } = mutA m s := rfl
  have tsc : ∀ b, b ∈ m.tR :: m.trs → b ≠ m.R.sc := fun b hb e => hM.tf b hb (by unfold mutA; rw [if_neg h0, e]; exact List.mem_cons_self)
  have tp : TurnsP A (upd (upd H c (.lst (z.map nI))) m.R.sc (.lst (m.R.scs.map V.ref ++ [.ref c]))) m := by
    refine hM.tp.kept fun b hb o e _ => keep b o e ?_
    rcases hb with z | z | z
    · rw [z]
      exact ne_of hM.tp.t1 hR.scr (by intro z; cases z)
    · exact tsc b (by rw [z]; exact List.mem_cons_self)
    · exact tsc b (List.mem_cons_of_mem _ z)
  refine ⟨keep _ _ hM.ins (ne_of hM.ins hR.scr (by intro z; cases z)), ⟨tp.t1, tp.t2, tp.t3, tp.t4⟩, hM.tf, fun _ => ?_, fun e => absurd e h0, hM.num, ?_⟩
  · refine ⟨keep _ _ hR.ins (ne_of hR.ins hR.scr (by intro z; cases z)), keep _ _ hR.mem fun e => nd1 (by simp [← e]), keep _ _ hR.att (ne_of hR.att hR.scr (by intro z; cases z)), hR.al, fun k i a h1 h2 => keep _ _ (hR.at_ k i a h1 h2) fun e => nd1 (by simp [← e, List.mem_of_getElem? h2]), ?_, ?_, fun k y a h1 h2 => ?_, ?_, ?_⟩
    · rw [upd_same, List.map_append]
      rfl
    · show (m.R.scs ++ [c]).length = (s.scrambles ++ [z]).length
      rw [List.length_append, List.length_append, hR.scl]
      rfl
    · have h1 : (s.scrambles ++ [z])[k]? = some y := h1
      have h2 : (m.R.scs ++ [c])[k]? = some a := h2
      by_cases hk : k < s.scrambles.length
      · rw [List.getElem?_append_left hk] at h1
        rw [List.getElem?_append_left (by rw [hR.scl]; exact hk)] at h2
        exact keep _ _ (hR.sc_ k y a h1 h2) fun e => nd1 (by simp [← e, List.mem_of_getElem? h2])
      · have hk2 : k = s.scrambles.length := by
          have := (List.getElem?_eq_some_iff.mp h1).1
          rw [List.length_append] at this
          have e2 : [z].length = 1 := rfl
          omega
        rw [hk2, List.getElem?_append_right (Nat.le_refl _), Nat.sub_self] at h1
        rw [hk2, ← hR.scl, List.getElem?_append_right (Nat.le_refl _), Nat.sub_self] at h2
        cases h1
        cases h2
        rw [upd_ne csc, upd_same]
    · show (m.R.sc :: m.R.mem :: (m.R.atts ++ (m.R.scs ++ [c]))).Nodup
      have e : m.R.sc :: m.R.mem :: (m.R.atts ++ (m.R.scs ++ [c])) = (m.R.sc :: m.R.mem :: (m.R.atts ++ m.R.scs)) ++ [c] := by simp
      rw [e]
      refine nd_snoc hR.nd fun q => ?_
      have live : ∀ b, b ∈ m.R.sc :: m.R.mem :: (m.R.atts ++ m.R.scs) → ∃ o, H b = some o := fun b hb => by
        rcases List.mem_cons.mp hb with r | r
        · exact ⟨_, by rw [r]; exact hR.scr⟩
        rcases List.mem_cons.mp r with r | r
        · exact ⟨_, by rw [r]; exact hR.mem⟩
        rcases List.mem_append.mp r with r | r
        · obtain ⟨n, hn⟩ := List.mem_iff_getElem?.mp r
          have hl := (List.getElem?_eq_some_iff.mp hn).1
          rw [hR.al] at hl
          exact ⟨_, hR.at_ n _ b (List.getElem?_eq_getElem hl) hn⟩
        · obtain ⟨n, hn⟩ := List.mem_iff_getElem?.mp r
          have hl := (List.getElem?_eq_some_iff.mp hn).1
          rw [hR.scl] at hl
          exact ⟨_, hR.sc_ n _ b (List.getElem?_eq_getElem hl) hn⟩
      obtain ⟨o, ho⟩ := live c q
      rw [nc] at ho
      cases ho
    · refine ⟨wf.num, wf.kind, wf.lim, wf.nin, wf.il, wf.lt, wf.tl, wf.len, wf.val, wf.out, ?_, fun y hy => ?_⟩
      · show (s.scrambles ++ [z]).length ≤ 3
        rw [List.length_append]
        show _ + 1 ≤ 3
        omega
      · rcases List.mem_append.mp hy with r | r
        · exact wf.scm y r
        · rw [List.mem_singleton.mp r]
          exact hz
  · exact tabs_lst (hM.tabs.ext (Same.new nc)) (Same.new nc _ _ hR.scr) (fun _ z => by cases z) lst_code
section
variable {P : Program} {w : World} {K : PySem.W.Frag} {mg : Str → Option Value} {base : Heap} {A : Ads}
theorem cur_none {m : MA} {s : Kg83.State} : decide (curV m s = .non) = decide (s.round = 0) := by
  rw [decide_eq_decide]
  unfold curV
  split
  · rename_i h
    exact ⟨fun _ => h, fun _ => rfl⟩
  · rename_i h
    exact ⟨(fun z => by cases z), fun z => absurd z h⟩
/-! order -/
def ordL (s : Kg83.State) (i : Nat) : List Int := [(i : Int), (s.place i : Int), Kg83.opt (Kg83.result s.kind (s.triesOf i)), Kg83.opt (Kg83.least (s.triesOf i))]
def spOrd (A : Ads) : Sp := fun vs H Q E => ∃ (M : Addr) (m : MA) (s : Kg83.State), vs = [.ref M] ∧ MeetAt A H M m s ∧ ∀ H' m' L, MStep A H M m s H' m' (Kg83.spec s .order).1 → H' L = some (.lst (((Kg83.spec s .order).2.value :: (Kg83.spec s .order).2.out).map V.int)) → NewL H M m s L → Q (.ref L) H'
theorem flat_len (s : Kg83.State) : ∀ l : List Nat, (l.flatMap (ordL s)).length = 4 * l.length
  | [] => rfl
  | i :: l => by
    rw [List.flatMap_cons, List.length_append, flat_len s l, List.length_cons]
    show 4 + _ = _
    omega
theorem sc_order : FnScope ["meet", "current", "some", "found", "member", "place"] ["meet"] (defScope s_order) := ⟨rfl, rfl, rfl, by decide +kernel, rfl, by decide +kernel, by decide +kernel⟩
theorem ok_ord (T : Txt K mg A) (TB : TabB base mg A.cOrder A.pOrder) : Has P w K mg base CX0 12 A.order ["meet"] (spOrd A) := by
  refine T.f_order.ok sc_order (fun vs H Q E h => ?_) (fun cdv Ar outer s0 H vs Q E hr h => ?_)
  · obtain ⟨_, _, _, rfl, _⟩ := h
    rfl
  obtain ⟨M, m, s, rfl, hM, k⟩ := h
  have G_order := ok_order (P := P) (w := w) (base := base) T TB
  have G_best := ok_best (P := P) (w := w) (base := base) T
  have G_result := ok_result (P := P) (w := w) (base := base) T
  refine ⟨_, (pss_cons (ps_if (pt_cmpR op_isN (pe_fld (pv 0) rfl) pe_non (nomark _)) (pss_one (ps_ret (pe_lst (pa_cons pe_int pa_nil)))) pss_nil)
    (pss_cons (ps_set (i := 1) sc_order.nd rfl (Or.inl rfl) (pe_fld (pv 0) rfl))
    (pss_cons (ps_set (i := 2) sc_order.nd rfl (Or.inl rfl) (pe_m0 (pv 1) T.c_Round T.m_Round_order G_order (hr.mono (by decide)) pass0))
    (pss_cons (ps_set (i := 3) sc_order.nd rfl (Or.inl rfl) (pe_lst (pa_cons (pe_callB call_len_seq (by rfl) T.b_len PySem.boot_len (pa_cons (pv 2) pa_nil)) pa_nil)))
    (pss_cons (ps_for PassesOwn.never rfl (pi_list (pv 2)) (pg_tup rfl (pgs_cons (pg_name (i := 4) sc_order.nd rfl (Or.inl rfl)) (pgs_cons (pg_name (i := 5) sc_order.nd rfl (Or.inl rfl)) pgs_nil))) (pss_one (ps_expr (pe_bm PySem.F.plainAttrs_list PySem.F.slot_list_extend PySem.F.type_list_extend mt_extend (pv 3) (pa_cons (pe_lst (pa_cons (pv 4) (pa_cons (pv 5) (pa_cons (pe_m (pv 1) T.c_Round T.m_Round_result G_result (hr.mono (by decide)) pass0 (pa_cons (pv 4) pa_nil)) (pa_cons (pe_m (pv 1) T.c_Round T.m_Round_best G_best (hr.mono (by decide)) pass0 (pa_cons (pv 4) pa_nil)) pa_nil))))) pa_nil)))))
    (pss_one (ps_ret (pv 3)))))))), ?_⟩
  have es : Kg83.spec s .order = (s, ⟨s.order.length, s.order.flatMap (ordL s)⟩) := rfl
  refine ⟨_, rfl, M, A.CMeet, m.dx, _, _, rfl, hM.ins, T.c_Meet, T.n_Meet_current, mF_current m s, rfl, _, rfl, ?_⟩
  by_cases h0 : s.round = 0
  · rw [curV_no h0]
    have ez := hM.z0 h0
    have e1 : s.order = [] := by rw [ez]; rfl
    refine dT rfl ⟨(by show 1 ≤ sizeLine; decide), fun L nL => k _ m L ?_ ?_ (NewL.of (fun b o e _ _ => e) nL)⟩
    · rw [es]
      exact hM.step0 (Same.new nL)
    · rw [es, e1, upd_same]
      rfl
  rw [curV_yes h0]
  have hR := hM.rnd h0
  refine dF (by intro z; cases z) ?_
  refine ⟨_, rfl, M, A.CMeet, m.dx, _, _, rfl, hM.ins, T.c_Meet, T.n_Meet_current, mF_current m s, ?_⟩
  rw [curV_yes h0]
  refine ⟨_, rfl, m.r, m.R.dx, _, rfl, hR.ins, rF_order s m.R, m.r, m.R, s, rfl, hR, hM.tabs, fun H1 L ps e1 t1 hL hl hps => ?_⟩
  have hM1 := hM.ext e1 t1
  have hR1 := hM1.rnd h0
  refine ⟨_, rfl, L, _, rfl, .inl (SqL.of hL), (by show 1 ≤ sizeLine; decide), fun F nF => ?_⟩
  rw [List.length_map, hl]
  have sF : Same H1 (upd H1 F (.lst [.int (s.order.length : Nat)])) := Same.new nF
  refine ⟨_, rfl, L, rfl, ⟨_, SqL.of (sF _ _ hL)⟩, for_list (K := K) (a := L) (xs := ps.map V.ref) (fun j σ H' => ∃ a b, σ = [some (.ref M), some (.ref m.r), some (.ref L), some (.ref F), a, b] ∧ Same H1 H' ∧ H' F = some (.lst ((((s.order.length : Nat) : Int) :: (s.order.take j).flatMap (ordL s)).map V.int))) ⟨_, _, rfl, sF, upd_same⟩ (fun j σ H' _ ⟨_, _, _, s1, _⟩ => SqL.of (s1 _ _ hL)) ?_ ?_⟩
  · rintro j x σ H2 hx ⟨a, b, rfl, s2, hF⟩
    obtain ⟨p, hp, rfl⟩ := map_at hx
    have hj : j < s.order.length := by
      rw [← hl]
      exact (List.getElem?_eq_some_iff.mp hp).1
    obtain ⟨i, hi⟩ : ∃ i, s.order[j]? = some i := ⟨_, List.getElem?_eq_getElem hj⟩
    have hpi := s2 _ _ (hps j i p hi hp)
    have hR2 := hR1.same s2
    have mem := order_mem hR.wf (List.mem_of_getElem? hi)
    refine ⟨p, _, rfl, SqT.of hpi, rfl, _, _, rfl, _, _, rfl, rfl, ?_⟩
    refine ⟨_, rfl, .inl ⟨rfl, _, SqL.of hF⟩, _, rfl, _, rfl, _, rfl, m.r, m.R.dx, _, rfl, hR2.ins, rF_result s m.R, _, rfl, m.r, m.R, s, i, rfl, hR2, mem, fun H3 s3 => ?_⟩
    refine ⟨_, rfl, m.r, m.R.dx, _, rfl, s3 _ _ hR2.ins, rF_best s m.R, _, rfl, m.r, m.R, s, i, rfl, hR2.same s3, mem, fun H4 s4 => ?_⟩
    refine ⟨(by show 4 ≤ sizeLine; decide), fun q nq => ?_⟩
    have s5 := (s3.trans s4).trans (Same.new (o := .lst [nI i, nI (s.place i), tI (Kg83.result s.kind (s.triesOf i)), tI (Kg83.least (s.triesOf i))]) nq)
    refine ⟨F, q, _, _, rfl, rfl, s5 _ _ hF, upd_same, ?_, _, _, rfl, fun b o e => ?_, ?_⟩
    · rw [List.length_map, List.length_cons, flat_len, List.length_take, sizeLine_eq]
      have := order_len hR.wf
      show _ + 4 ≤ _
      omega
    · rw [upd_ne (ne_of_none e nF)]
      exact s5 _ _ (s2 _ _ e)
    · rw [upd_same, take_more hi, List.flatMap_append, ← List.cons_append, List.map_append]
      rfl
  · rintro σ H2 ⟨a, b, rfl, s2, hF⟩
    rw [List.length_map, hl, List.take_length] at hF
    refine ⟨_, rfl, k _ m F ?_ ?_ ?_⟩
    · rw [es]
      exact hM.step (e1.trans (ExtN.same s2)) (t1.ext s2)
    · rw [es]
      exact hF
    · exact NewL.of (fun b o e n _ => e1 b o e n) nF
/-! scramble -/
def spScramble (K : PySem.W.Frag) (A : Ads) : Sp := fun vs H Q E => ∃ (M : Addr) (m : MA) (s : Kg83.State) (a : Addr) (l : List Int), vs = [.ref M, .ref a] ∧ MeetAt A H M m s ∧ H a = some (.lst (l.map V.int)) ∧ a ∉ foot M m s ∧ l.length ≤ 1000 ∧ Ends A H M m s (.scramble l) Q E
theorem sc_scramble : FnScope ["meet", "moves", "current"] ["meet", "moves"] (defScope s_scramble) := ⟨rfl, rfl, rfl, by decide +kernel, rfl, by decide +kernel, by decide +kernel⟩
theorem ok_scramble (T : Txt K mg A) : Has P w K mg base (L2.CX P w) 6 A.scramble ["meet", "moves"] (spScramble K A) := by
  refine T.f_scramble.okX sc_scramble (fun vs H Q E h => ?_) (fun cdv Ar outer s0 H vs Q E hr h => ?_)
  · obtain ⟨_, _, _, _, _, rfl, _⟩ := h
    rfl
  obtain ⟨M, m, s, a, l, rfl, hM, ha, haf, hl, k⟩ := h
  have G_must := ok_must (P := P) (w := w) (base := base) T
  have G_are_moves := ok_are_moves (P := P) (w := w) (base := base) T
  have G_moved := ok_moved (P := P) (w := w) (base := base) T
  have G_solved_cube := ok_solved_cube (P := P) (w := w) (base := base) T
  have G_is_solved := ok_is_solved (P := P) (w := w) (base := base) T
  have px := passes_call (X := cxOf (L2.CX P w) P w K mg base ["meet", "moves", "current"] "scramble" (defScope s_scramble) A.scramble cdv Ar outer s0 H E) (takes_of rfl rfl rfl rfl) (fun _ _ _ _ h => h)
  obtain ⟨_, g_SCRAMBLES⟩ := T.i_SCRAMBLES
  obtain ⟨_, g_FEWEST⟩ := T.i_FEWEST
  obtain ⟨_, g_MOST_SCRAMBLE⟩ := T.i_MOST_SCRAMBLE
  refine ⟨_, (pss_cons (ps_expr (pe_c G_must (hr.mono (by decide)) rfl T.g_must px (pa_cons (pe_c G_are_moves (hr.mono (by decide)) rfl T.g_are_moves pass0 (pa_cons (pv 1) (pa_cons (pe_gi rfl g_MOST_SCRAMBLE) pa_nil))) (pa_cons (pe_un un_neg pe_int) pa_nil))))
    (pss_cons (ps_expr (pe_c G_must (hr.mono (by decide)) rfl T.g_must px (pa_cons (pe_cmpR op_notN (pe_fld (pv 0) rfl) pe_non (nomark _)) (pa_cons (pe_un un_neg pe_int) pa_nil))))
    (pss_cons (ps_set (i := 2) sc_scramble.nd rfl (Or.inl rfl) (pe_fld (pv 0) rfl))
    (pss_cons (ps_expr (pe_c G_must (hr.mono (by decide)) rfl T.g_must px (pa_cons (pe_cmpR op_eq (pe_fld (pv 2) rfl) (pe_gi rfl g_FEWEST) (nomark _)) (pa_cons (pe_un un_neg pe_int) pa_nil))))
    (pss_cons (ps_expr (pe_c G_must (hr.mono (by decide)) rfl T.g_must px (pa_cons (pe_cmpR op_lt (pe_callB call_len_seq (by rfl) T.b_len PySem.boot_len (pa_cons (pe_fld (pv 2) rfl) pa_nil)) (pe_gi rfl g_SCRAMBLES) (nomark _)) (pa_cons (pe_un un_neg pe_int) pa_nil))))
    (pss_cons (ps_expr (pe_bm PySem.F.plainAttrs_list PySem.F.slot_list_append PySem.F.type_list_append mt_append (pe_fld (pv 2) rfl) (pa_cons (pe_callTy call_list_of (by rfl) T.b_list (by decide +kernel) (pa_cons (pv 1) pa_nil)) pa_nil)))
    (pss_one (ps_ret (pe_lst (pa_cons (pe_callB call_len_seq (by rfl) T.b_len PySem.boot_len (pa_cons (pe_fld (pv 2) rfl) pa_nil)) (pa_cons (pe_callTy call_int1 (by rfl) T.b_int (by decide +kernel) (pa_cons (pe_c G_is_solved (hr.mono (by decide)) rfl T.g_is_solved pass0 (pa_cons (pe_m (pe_fld (pv 0) rfl) T.c_Turns T.m_Turns_moved G_moved (hr.mono (by decide)) pass0 (pa_cons (pe_c0 G_solved_cube (hr.mono (by decide)) rfl T.g_solved_cube pass0) (pa_cons (pv 1) pa_nil))) pa_nil)) pa_nil)) pa_nil))))))))))), ?_⟩
  have spec_eq : Kg83.spec s (.scramble l) = if Kg83.okMoves l 30 = false then (s, Kg83.num (-1)) else if s.round = 0 ∨ s.kind ≠ 3 then (s, Kg83.num (-2)) else if 3 ≤ s.scrambles.length then (s, Kg83.num (-5)) else ({ s with scrambles := s.scrambles ++ [Kg83.nats l] }, ⟨(s.scrambles.length + 1 : Nat), [Kg83.truth (Kg83.isSolved (Kg83.moves Kg83.solved (Kg83.nats l)))]⟩) := rfl
  refine ⟨_, rfl, a, l, 30, rfl, SqL.of ha, hl, fun H1 s1 => ⟨_, rfl, _, _, rfl, fun hw => ?_, fun hw => ?_⟩⟩
  · rw [if_neg (by rw [hw]; decide)] at spec_eq
    obtain ⟨el, e18, el3⟩ := okMoves_nats hw
    have hM1 := hM.same s1
    refine ⟨_, rfl, M, A.CMeet, m.dx, _, _, rfl, hM1.ins, T.c_Meet, T.n_Meet_current, mF_current m s, rfl, _, rfl, _, _, rfl, fun h0 => ?_, fun h0 => ?_⟩
    · rw [cur_none] at h0
      have h0 : s.round ≠ 0 := by
        intro z
        rw [decide_eq_true z] at h0
        cases h0
      have hR1 := hM1.rnd h0
      have hR := hM.rnd h0
      refine ⟨_, rfl, M, A.CMeet, m.dx, _, _, rfl, hM1.ins, T.c_Meet, T.n_Meet_current, mF_current m s, ?_⟩
      rw [curV_yes h0]
      refine ⟨_, rfl, m.r, A.CRound, m.R.dx, _, _, rfl, hR1.ins, T.c_Round, T.n_Round_kind, rF_kind s m.R, rfl, _, rfl, _, _, rfl, fun h3 => ?_, fun h3 => ?_⟩
      · have h3 : s.kind = 3 := of_decide_eq_true ((nI_eq (a := s.kind) (b := 3)).symm.trans h3)
        rw [if_neg (by rintro (z | z); exact h0 z; exact z h3)] at spec_eq
        refine ⟨_, rfl, m.r, A.CRound, m.R.dx, _, _, rfl, hR1.ins, T.c_Round, T.n_Round_scrambles, rF_scrambles s m.R, m.R.sc, _, rfl, .inl (SqL.of hR1.scr), _, _, rfl, rfl, _, rfl, _, _, rfl, fun h5 => ?_, fun h5 => ?_⟩
        · have h5 := of_decide_eq_true h5
          rw [List.length_map, hR.scl] at h5
          rw [if_neg (by omega)] at spec_eq
          refine ⟨_, rfl, m.r, A.CRound, m.R.dx, _, _, rfl, hR1.ins, T.c_Round, T.n_Round_scrambles, rF_scrambles s m.R, .inl ⟨rfl, _, SqL.of hR1.scr⟩, _, rfl, ?_⟩
          refine ⟨a, _, rfl, .inl (SqL.of (s1 _ _ ha)), fun c nc => ⟨m.R.sc, _, .ref c, rfl, rfl, Same.new nc _ _ hR1.scr, ?_, ?_⟩⟩
          · rw [List.length_map, hR.scl, sizeLine_eq]
            omega
          rw [el]
          have hM2 := hM1.scram h0 (by omega) nc (z := Kg83.nats l) ⟨by unfold Kg83.nats; rw [List.length_map]; exact el3, e18⟩
          have keep2 : ∀ b o, H1 b = some o → b ≠ m.R.sc → upd (upd H1 c (.lst ((Kg83.nats l).map nI))) m.R.sc (.lst (m.R.scs.map V.ref ++ [.ref c])) b = some o := fun b o e hb => by
            rw [upd_ne hb]
            exact Same.new nc _ _ e
          have asc : a ≠ m.R.sc := fun z => haf (List.mem_cons_of_mem _ (by unfold mutA; rw [if_neg h0, z]; exact List.mem_cons_self))
          have ha2 := keep2 a _ (s1 _ _ ha) asc
          generalize eH : upd (upd H1 c (.lst ((Kg83.nats l).map nI))) m.R.sc (.lst (m.R.scs.map V.ref ++ [.ref c])) = H2 at hM2 keep2 ha2 ⊢
          have hR2 := hM2.rnd h0
          refine ⟨_, rfl, m.r, A.CRound, m.R.dx, _, _, rfl, hR2.ins, T.c_Round, T.n_Round_scrambles, rfl, m.R.sc, _, rfl, .inl (SqL.of hR2.scr), ?_⟩
          refine ⟨_, rfl, M, A.CMeet, m.dx, _, _, rfl, hM2.ins, T.c_Meet, T.n_Meet_turns, rfl, m.tn, m.tdx, _, rfl, hM2.tp.t1, rfl, ?_⟩
          refine ⟨rfl, fun H3 q s3 hq => ⟨_, rfl, m.tn, q, a, Kg83.solved, Kg83.nats l, rfl, hM2.tp.at_.same s3, hq, (by decide), SqL.of (by rw [← el]; exact s3 _ _ ha2), e18, fun H4 d s4 hd => ?_⟩⟩
          refine ⟨d, _, rfl, hd, fun H5 s5 => .inr ⟨_, rfl, (by show 2 ≤ sizeLine; decide), fun L nL => ?_⟩⟩
          have s25 := (s3.trans s4).trans s5
          have keepA : ∀ b o, H b = some o → (∀ ps, o ≠ .tbl ps) → b ∉ foot M m s → H5 b = some o := fun b o e _ hb => s25 _ _ (keep2 b o (s1 _ _ e) fun z => hb (List.mem_cons_of_mem _ (by unfold mutA; rw [if_neg h0, z]; exact List.mem_cons_self)))
          refine k.ret _ { m with R := { m.R with scs := m.R.scs ++ [c] } } L ?_ ?_ (NewL.of keepA nL)
          · rw [spec_eq]
            refine ⟨hM2.same (s25.trans (Same.new nL)), fun b o e n hb => Same.new nL _ _ (keepA b o e n hb), fun b o e n hb hb2 => ?_, fun b o e n hb hb2 => hb ?_⟩
            · have bc : b ≠ c := ne_of_none (s1 _ _ e) nc
              refine hb ?_
              unfold supp rest at hb2 ⊢
              rw [if_neg h0] at hb2 ⊢
              simp at hb2 ⊢
              rcases hb2 with z | z | z | z | z | z | z | z | z | z | z
              all_goals first | exact absurd z bc | simp [z]
            · exact hb2
          · rw [spec_eq, upd_same, List.map_append, List.length_append, List.length_map, hR.scl]
            rfl
        · have h5 := of_decide_eq_false h5
          rw [List.length_map, hR.scl] at h5
          exact k.ref0 hM (by rw [spec_eq, if_pos (by omega)]) s1
      · have h3 : s.kind ≠ 3 := of_decide_eq_false ((nI_eq (a := s.kind) (b := 3)).symm.trans h3)
        exact k.ref0 hM (by rw [spec_eq, if_pos (.inr h3)]) s1
    · rw [cur_none] at h0
      have h0 : s.round = 0 := by
        cases z : decide (s.round = 0) with
        | true => exact of_decide_eq_true z
        | false =>
          rw [z] at h0
          cases h0
      exact k.ref0 hM (by rw [spec_eq, if_pos (.inl h0)]) s1
  · exact k.ref0 hM (by rw [spec_eq, if_pos hw]) s1
end
end Cm
namespace Cm
open PySem PySem.Spec PyProof.Rows L2 LamX
theorem inV_isIn {s : Kg83.State} {i : Int} : inV (.int i) (s.inIt.map nI) = Kg83.isIn s i := by
  by_cases h : 0 ≤ i
  · exact inV_in h
  · rw [mapNI, inV_ints, Bool.eq_iff_iff, decide_eq_true_eq]
    unfold Kg83.isIn
    rw [decide_eq_false h, Bool.false_and]
    constructor
    · intro z
      obtain ⟨n, hn, e⟩ := List.mem_map.mp z
      omega
    · intro z
      cases z
theorem isIn_mem {s : Kg83.State} {i : Int} (h : Kg83.isIn s i = true) : 0 ≤ i ∧ i.toNat ∈ s.inIt := by
  unfold Kg83.isIn at h
  obtain ⟨h1, h2⟩ := Bool.and_eq_true_iff.mp h
  exact ⟨of_decide_eq_true h1, List.contains_iff_mem.mp h2⟩
/-- an attempt put down -/
abbrev putS (s : Kg83.State) (i : Nat) (x : Kg83.Try) : Kg83.State := { s with tries := s.tries.set i (s.triesOf i ++ [x]) }
theorem put_same {s : Kg83.State} {i : Nat} {x : Kg83.Try} (h : i < s.tries.length) : (putS s i x).triesOf i = s.triesOf i ++ [x] := by
  unfold Kg83.State.triesOf
  show (s.tries.set i (s.tries.getD i [] ++ [x])).getD i [] = _
  rw [List.getD_eq_getElem?_getD, List.getElem?_set_self h]
  rfl
theorem put_other {s : Kg83.State} {i j : Nat} {x : Kg83.Try} (h : i ≠ j) : (putS s i x).triesOf j = s.triesOf j := by
  unfold Kg83.State.triesOf
  show (s.tries.set i _).getD j [] = _
  rw [List.getD_eq_getElem?_getD, List.getElem?_set_ne h, List.getD_eq_getElem?_getD]
theorem wf_put {s : Kg83.State} (h : WF s) {i : Nat} {x : Kg83.Try} (hi : i ∈ s.inIt) (hl : (s.triesOf i).length < Kg83.attempts s.kind) (hx : ∀ n, x = some n → n ≤ 360000) : WF (putS s i x) := by
  have il : i < s.tries.length := by
    rw [h.tl]
    exact h.lt i hi
  refine ⟨h.num, h.kind, h.lim, h.nin, h.il, h.lt, ?_, fun j => ?_, fun j y hy => ?_, fun j hj => ?_, h.scl, h.scm⟩
  · show (s.tries.set i _).length = _
    rw [List.length_set]
    exact h.tl
  · by_cases e : i = j
    · rw [← e, put_same il, List.length_append]
      show _ + 1 ≤ Kg83.attempts s.kind
      omega
    · rw [put_other e]
      exact h.len j
  · by_cases e : i = j
    · rw [← e, put_same il] at hy
      rcases List.mem_append.mp hy with z | z
      · exact h.val i y z
      · exact hx y (List.mem_singleton.mp z).symm
    · rw [put_other e] at hy
      exact h.val j y hy
  · rw [put_other (fun e => hj (by rw [← e]; exact hi))]
    exact h.out j hj
theorem MeetAt.put {A : Ads} {H : Hp} {M : Addr} {m : MA} {s : Kg83.State} (hM : MeetAt A H M m s) (h0 : s.round ≠ 0) {i k : Nat} {a : Addr} {x : Kg83.Try} (hk : s.inIt[k]? = some i) (ha : m.R.atts[k]? = some a) (hl : (s.triesOf i).length < Kg83.attempts s.kind) (hx : ∀ n, x = some n → n ≤ 360000) :
    MeetAt A (upd H a (.lst ((s.triesOf i).map tI ++ [tI x]))) M m (putS s i x) := by
  have hR := hM.rnd h0
  have wf := hR.wf
  have hi := List.mem_of_getElem? hk
  have il : i < s.tries.length := by
    rw [wf.tl]
    exact wf.lt i hi
  have haM := List.mem_of_getElem? ha
  have hat := hR.at_ k i a hk ha
  have keep : ∀ b o, H b = some o → b ≠ a → upd H a (.lst ((s.triesOf i).map tI ++ [tI x])) b = some o := fun b o e hb => (upd_ne hb).trans e
  obtain ⟨nd1, nd2⟩ := List.nodup_cons.mp hR.nd
  obtain ⟨nd3, nd4⟩ := List.nodup_cons.mp nd2
  obtain ⟨nd5, _, nd6⟩ := List.nodup_append.mp nd4
  have amut : a ∈ mutA m s := by
    unfold mutA
    rw [if_neg h0]
    exact List.mem_cons_of_mem _ haM
  have tp : TurnsP A (upd H a (.lst ((s.triesOf i).map tI ++ [tI x]))) m := by
    refine hM.tp.kept fun b hb o e _ => keep b o e ?_
    rcases hb with z | z | z
    · rw [z]
      exact ne_of hM.tp.t1 hat (by intro z; cases z)
    · exact fun e => hM.tf b (by rw [z]; exact List.mem_cons_self) (by rw [e]; exact amut)
    · exact fun e => hM.tf b (List.mem_cons_of_mem _ z) (by rw [e]; exact amut)
  refine ⟨keep _ _ hM.ins (ne_of hM.ins hat (by intro z; cases z)), tp, hM.tf, fun _ => ?_, fun e => absurd e h0, hM.num, tabs_lst hM.tabs hat (fun _ z => by cases z) lst_code⟩
  refine ⟨keep _ _ hR.ins (ne_of hR.ins hat (by intro z; cases z)), keep _ _ hR.mem fun e => nd3 (by rw [e]; exact List.mem_append_left _ haM), keep _ _ hR.att (ne_of hR.att hat (by intro z; cases z)), hR.al, fun n j b h1 h2 => ?_, keep _ _ hR.scr fun e => nd1 (by rw [e]; exact List.mem_cons_of_mem _ (List.mem_append_left _ haM)), hR.scl, fun n z b h1 h2 => keep _ _ (hR.sc_ n z b h1 h2) fun e => nd6 a haM b (List.mem_of_getElem? h2) e.symm, hR.nd, wf_put wf hi hl hx⟩
  have h1 : s.inIt[n]? = some j := h1
  by_cases e : n = k
  · rw [e, hk] at h1
    cases h1
    rw [e, ha] at h2
    cases h2
    rw [upd_same, put_same il, List.map_append]
    rfl
  · have hji : i ≠ j := fun q => e (nd_ix wf.nin h1 (by rw [← q]; exact hk))
    rw [put_other hji]
    exact keep _ _ (hR.at_ n j b h1 h2) fun q => e (nd_ix nd5 h2 (by rw [q]; exact ha))
section
variable {P : Program} {w : World} {K : PySem.W.Frag} {mg : Str → Option Value} {base : Heap} {A : Ads}
/-! must_attempt -/
structure OnTry (A : Ads) (H : Hp) (m : MA) (s : Kg83.State) (i : Int) (E : XK) (G : Prop) : Prop where
  no : s.round = 0 → Ref A (-2) E H
  out : s.round ≠ 0 → Kg83.isIn s i = false → Ref A (-1) E H
  full : s.round ≠ 0 → Kg83.isIn s i = true → s.allowed i.toNat ≤ (s.triesOf i.toNat).length → Ref A (-5) E H
  ok : s.round ≠ 0 → Kg83.isIn s i = true → (s.triesOf i.toNat).length < s.allowed i.toNat → G
def spMA (A : Ads) : Sp := fun vs H Q E => ∃ (M : Addr) (m : MA) (s : Kg83.State) (i : Int), vs = [.ref M, .int i] ∧ MeetAt A H M m s ∧ OnTry A H m s i E (∀ H', Same H H' → Q (.ref m.r) H')
theorem sc_must_attempt : FnScope ["meet", "i", "current"] ["meet", "i"] (defScope s_must_attempt) := ⟨rfl, rfl, rfl, by decide +kernel, rfl, by decide +kernel, by decide +kernel⟩
theorem ok_must_attempt (T : Txt K mg A) : Has P w K mg base (L2.CX P w) 6 A.must_attempt ["meet", "i"] (spMA A) := by
  refine T.f_must_attempt.okX sc_must_attempt (fun vs H Q E h => ?_) (fun cdv Ar outer s0 H vs Q E hr h => ?_)
  · obtain ⟨_, _, _, _, rfl, _⟩ := h
    rfl
  obtain ⟨M, m, s, i, rfl, hM, k⟩ := h
  have G_must := ok_must (P := P) (w := w) (base := base) T
  have G_may_have := ok_may_have (P := P) (w := w) (base := base) T
  have px := passes_call (X := cxOf (L2.CX P w) P w K mg base ["meet", "i", "current"] "must_attempt" (defScope s_must_attempt) A.must_attempt cdv Ar outer s0 H E) (takes_of rfl rfl rfl rfl) (fun _ _ _ _ h => h)
  skip
  refine ⟨_, (pss_cons (ps_expr (pe_c G_must (hr.mono (by decide)) rfl T.g_must px (pa_cons (pe_cmpR op_notN (pe_fld (pv 0) rfl) pe_non (nomark _)) (pa_cons (pe_un un_neg pe_int) pa_nil))))
    (pss_cons (ps_set (i := 2) sc_must_attempt.nd rfl (Or.inl rfl) (pe_fld (pv 0) rfl))
    (pss_cons (ps_expr (pe_c G_must (hr.mono (by decide)) rfl T.g_must px (pa_cons (pe_cmpR op_in_seq (pv 1) (pe_fld (pv 2) rfl) (by rfl)) (pa_cons (pe_un un_neg pe_int) pa_nil))))
    (pss_cons (ps_expr (pe_c G_must (hr.mono (by decide)) rfl T.g_must px (pa_cons (pe_cmpR op_lt (pe_callB call_len_seq (by rfl) T.b_len PySem.boot_len (pa_cons (pe_dget (hu_of hr) (pe_fld (pv 2) rfl) (pv 1) (fun _ _ => rfl)) pa_nil)) (pe_m (pv 2) T.c_Round T.m_Round_may_have G_may_have (hr.mono (by decide)) pass0 (pa_cons (pv 1) pa_nil)) (nomark _)) (pa_cons (pe_un un_neg pe_int) pa_nil))))
    (pss_one (ps_ret (pv 2))))))), ?_⟩
  refine ⟨_, rfl, M, A.CMeet, m.dx, _, _, rfl, hM.ins, T.c_Meet, T.n_Meet_current, mF_current m s, rfl, _, rfl, _, _, rfl, fun h0 => ?_, fun h0 => ?_⟩
  · rw [cur_none] at h0
    have h0 : s.round ≠ 0 := by
      intro z
      rw [decide_eq_true z] at h0
      cases h0
    have hR := hM.rnd h0
    refine ⟨_, rfl, M, A.CMeet, m.dx, _, _, rfl, hM.ins, T.c_Meet, T.n_Meet_current, mF_current m s, ?_⟩
    rw [curV_yes h0]
    refine ⟨_, rfl, _, rfl, m.r, A.CRound, m.R.dx, _, _, rfl, hR.ins, T.c_Round, T.n_Round_members, rF_members s m.R, m.R.mem, _, rfl, .inl (SqL.of hR.mem), rfl, flat_nats _, _, rfl, _, _, rfl, fun h1 => ?_, fun h1 => ?_⟩
    · rw [if_neg Bool.false_ne_true, inV_isIn] at h1
      obtain ⟨i0, hmem⟩ := isIn_mem h1
      obtain ⟨_, a, _, _, hg, ha⟩ := hR.get hmem
      rw [nI_toNat i0] at hg
      refine ⟨_, rfl, m.r, A.CRound, m.R.dx, _, _, rfl, hR.ins, T.c_Round, T.n_Round_attempts, rF_attempts s m.R, _, rfl, m.R.att, .ref a, rfl, hg, a, _, rfl, .inl (SqL.of ha), ?_⟩
      refine ⟨_, rfl, m.r, m.R.dx, _, rfl, hR.ins, rF_may s m.R, _, rfl, m.r, m.R, s, i.toNat, (by rw [nI_toNat i0]), hR, hmem, fun H1 s1 => ?_⟩
      refine ⟨_, _, rfl, rfl, _, rfl, _, _, rfl, fun h2 => ?_, fun h2 => ?_⟩
      · rw [List.length_map] at h2
        have h2 := of_decide_eq_true h2
        exact ⟨_, rfl, k.ok h0 h1 (by omega) H1 s1⟩
      · rw [List.length_map] at h2
        have h2 := of_decide_eq_false h2
        exact (k.full h0 h1 (by omega)).same s1
    · rw [if_neg Bool.false_ne_true, inV_isIn] at h1
      exact k.out h0 h1
  · rw [cur_none] at h0
    have h0 : s.round = 0 := by
      cases z : decide (s.round = 0) with
      | true => exact of_decide_eq_true z
      | false =>
        rw [z] at h0
        cases h0
    exact k.no h0
/-! put_attempt -/
def spPut (A : Ads) : Sp := fun vs H Q E => ∃ (M : Addr) (m : MA) (s : Kg83.State) (i : Nat) (x : Kg83.Try), vs = [.ref m.r, nI i, tI x] ∧ MeetAt A H M m s ∧ s.round ≠ 0 ∧ i ∈ s.inIt ∧ (s.triesOf i).length < Kg83.attempts s.kind ∧ (∀ n, x = some n → n ≤ 360000) ∧
  ∀ H' L, MStep A H M m s H' m (Kg83.putTry s i x).1 → H' L = some (.lst (((Kg83.putTry s i x).2.value :: (Kg83.putTry s i x).2.out).map V.int)) → NewL H M m s L → Q (.ref L) H'
theorem sc_put_attempt : FnScope ["current", "i", "counted", "some"] ["current", "i", "counted"] (defScope s_put_attempt) := ⟨rfl, rfl, rfl, by decide +kernel, rfl, by decide +kernel, by decide +kernel⟩
theorem ok_put_attempt (T : Txt K mg A) : Has P w K mg base CX0 6 A.put_attempt ["current", "i", "counted"] (spPut A) := by
  refine T.f_put_attempt.ok sc_put_attempt (fun vs H Q E h => ?_) (fun cdv Ar outer s0 H vs Q E hr h => ?_)
  · obtain ⟨_, _, _, _, _, rfl, _⟩ := h
    rfl
  obtain ⟨M, m, s, i, x, rfl, hM, h0, hi, hl, hx, k⟩ := h
  have G_may_have := ok_may_have (P := P) (w := w) (base := base) T
  have G_best := ok_best (P := P) (w := w) (base := base) T
  have G_result := ok_result (P := P) (w := w) (base := base) T
  refine ⟨_, (pss_cons (ps_set (i := 3) sc_put_attempt.nd rfl (Or.inl rfl) (pe_dget (hu_of hr) (pe_fld (pv 0) rfl) (pv 1) (fun _ _ => rfl)))
    (pss_cons (ps_expr (pe_bm PySem.F.plainAttrs_list PySem.F.slot_list_append PySem.F.type_list_append mt_append (pv 3) (pa_cons (pv 2) pa_nil)))
    (pss_one (ps_ret (pe_lst (pa_cons (pe_callB call_len_seq (by rfl) T.b_len PySem.boot_len (pa_cons (pv 3) pa_nil)) (pa_cons (pv 2) (pa_cons (pe_m (pv 0) T.c_Round T.m_Round_may_have G_may_have (hr.mono (by decide)) pass0 (pa_cons (pv 1) pa_nil)) (pa_cons (pe_m (pv 0) T.c_Round T.m_Round_best G_best (hr.mono (by decide)) pass0 (pa_cons (pv 1) pa_nil)) (pa_cons (pe_m (pv 0) T.c_Round T.m_Round_result G_result (hr.mono (by decide)) pass0 (pa_cons (pv 1) pa_nil)) pa_nil)))))))))), ?_⟩
  have hR := hM.rnd h0
  obtain ⟨n, a, hn, han, hg, ha⟩ := hR.get hi
  have il : i < s.tries.length := by
    rw [hR.wf.tl]
    exact hR.wf.lt i hi
  refine ⟨_, rfl, m.r, A.CRound, m.R.dx, _, _, rfl, hR.ins, T.c_Round, T.n_Round_attempts, rF_attempts s m.R, _, rfl, m.R.att, .ref a, rfl, hg, ?_⟩
  refine ⟨_, rfl, .inl ⟨rfl, _, SqL.of ha⟩, _, rfl, a, _, _, rfl, rfl, ha, ?_, ?_⟩
  · rw [List.length_map, sizeLine_eq]
    have := hR.wf.len5 i
    omega
  have hM1 := hM.put h0 hn han hl hx
  have hat : upd H a (.lst ((s.triesOf i).map tI ++ [tI x])) a = some (.lst ((s.triesOf i).map tI ++ [tI x])) := upd_same
  have keep : ∀ b o, H b = some o → (∀ ps, o ≠ .tbl ps) → b ∉ foot M m s → upd H a (.lst ((s.triesOf i).map tI ++ [tI x])) b = some o := fun b o e _ hb => by
    rw [upd_ne (fun z => hb (List.mem_cons_of_mem _ (by unfold mutA; rw [if_neg h0, z]; exact List.mem_cons_of_mem _ (List.mem_of_getElem? han))))]
    exact e
  generalize upd H a (.lst ((s.triesOf i).map tI ++ [tI x])) = H1 at hM1 hat keep ⊢
  have hR1 := hM1.rnd h0
  refine ⟨_, rfl, a, _, rfl, .inl (SqL.of hat), _, rfl, _, rfl, m.r, m.R.dx, _, rfl, hR1.ins, rF_may _ m.R, _, rfl, m.r, m.R, putS s i x, i, rfl, hR1, hi, fun H2 s2 => ?_⟩
  refine ⟨_, rfl, m.r, m.R.dx, _, rfl, s2 _ _ hR1.ins, rF_best _ m.R, _, rfl, m.r, m.R, putS s i x, i, rfl, hR1.same s2, hi, fun H3 s3 => ?_⟩
  have s23 := s2.trans s3
  refine ⟨_, rfl, m.r, m.R.dx, _, rfl, s23 _ _ hR1.ins, rF_result _ m.R, _, rfl, m.r, m.R, putS s i x, i, rfl, hR1.same s23, hi, fun H4 s4 => ?_⟩
  have s24 := s23.trans s4
  refine ⟨(by show 5 ≤ sizeLine; decide), fun L nL => k _ L ⟨hM1.same (s24.trans (Same.new nL)), fun b o e n hb => Same.new nL _ _ (s24 _ _ (keep b o e n hb)), fun _ _ _ _ q => q, fun _ _ _ _ q => q⟩ ?_ (NewL.of (fun b o e n hb => s24 _ _ (keep b o e n hb)) nL)⟩
  rw [upd_same, List.length_append, List.length_map]
  have el : (s.triesOf i).length + [tI x].length = ((putS s i x).triesOf i).length := by
    rw [put_same il, List.length_append]
    rfl
  rw [el]
  rfl
/-! what onTry says -/
theorem onTry_ends {H : Hp} {M : Addr} {m : MA} {s : Kg83.State} {c : Kg83.Call} {Q : VK} {E : XK} {i : Int} {f : Nat → Kg83.State × Kg83.Ans} {G : Prop} {H1 : Hp} (hM : MeetAt A H M m s) (k : Ends A H M m s c Q E) (s1 : Same H H1) (es : Kg83.spec s c = Kg83.onTry s i f)
    (hG : s.round ≠ 0 → Kg83.isIn s i = true → (s.triesOf i.toNat).length < s.allowed i.toNat → Kg83.spec s c = f i.toNat → G) : OnTry A H1 m s i E G := by
  unfold Kg83.onTry at es
  refine ⟨fun h0 => ?_, fun h0 h1 => ?_, fun h0 h1 h2 => ?_, fun h0 h1 h2 => ?_⟩
  · rw [if_pos h0] at es
    exact k.ref0 hM es s1
  · rw [if_neg h0, if_pos h1] at es
    exact k.ref0 hM es s1
  · rw [if_neg h0, if_neg (by rw [h1]; decide), if_pos h2] at es
    exact k.ref0 hM es s1
  · rw [if_neg h0, if_neg (by rw [h1]; decide), if_neg (by omega)] at es
    exact hG h0 h1 h2 es
theorem ite_le {c : Prop} [Decidable c] {a b : Nat} (h : a ≤ b) : (if c then a else b) ≤ b := by
  by_cases hc : c
  · rw [if_pos hc]
    exact h
  · rw [if_neg hc]
    exact Nat.le_refl _
theorem allowed_le (s : Kg83.State) (i : Nat) : s.allowed i ≤ Kg83.attempts s.kind := by
  unfold Kg83.State.allowed
  refine ite_le (a := if s.kind = 0 then 2 else 1) ?_
  unfold Kg83.attempts
  by_cases h : s.kind = 0
  · rw [if_pos h, if_pos h]
    decide
  · rw [if_neg h, if_neg h]
    decide
/-! no_time -/
def spNone (A : Ads) : Sp := fun vs H Q E => ∃ (M : Addr) (m : MA) (s : Kg83.State) (i : Int), vs = [.ref M, .int i] ∧ MeetAt A H M m s ∧ Ends A H M m s (.none_ i) Q E
theorem sc_no_time : FnScope ["meet", "i"] ["meet", "i"] (defScope s_no_time) := ⟨rfl, rfl, rfl, by decide +kernel, rfl, by decide +kernel, by decide +kernel⟩
theorem ok_no_time (T : Txt K mg A) : Has P w K mg base (L2.CX P w) 8 A.no_time ["meet", "i"] (spNone A) := by
  refine T.f_no_time.okX sc_no_time (fun vs H Q E h => ?_) (fun cdv Ar outer s0 H vs Q E hr h => ?_)
  · obtain ⟨_, _, _, _, rfl, _⟩ := h
    rfl
  obtain ⟨M, m, s, i, rfl, hM, k⟩ := h
  have G_must_attempt := ok_must_attempt (P := P) (w := w) (base := base) T
  have G_put_attempt := ok_put_attempt (P := P) (w := w) (base := base) T
  have px := passes_call (X := cxOf (L2.CX P w) P w K mg base ["meet", "i"] "no_time" (defScope s_no_time) A.no_time cdv Ar outer s0 H E) (takes_of rfl rfl rfl rfl) (fun _ _ _ _ h => h)
  obtain ⟨_, g_NONE⟩ := T.i_NONE
  refine ⟨_, (pss_one (ps_ret (pe_c G_put_attempt (hr.mono (by decide)) rfl T.g_put_attempt pass0 (pa_cons (pe_c G_must_attempt (hr.mono (by decide)) rfl T.g_must_attempt px (pa_cons (pv 0) (pa_cons (pv 1) pa_nil))) (pa_cons (pv 1) (pa_cons (pe_gi rfl g_NONE) pa_nil)))))), ?_⟩
  refine ⟨_, rfl, _, rfl, M, m, s, i, rfl, hM, onTry_ends hM k (fun _ _ e => e) (f := fun k => Kg83.putTry s k none) rfl fun h0 h1 h2 es H1 s1 => ?_⟩
  obtain ⟨i0, hmem⟩ := isIn_mem h1
  have := allowed_le s i.toNat
  refine ⟨_, rfl, M, m, s, i.toNat, none, (by rw [nI_toNat i0]; rfl), hM.same s1, h0, hmem, by omega, (fun n z => by cases z), fun H2 L st hL nL => ?_⟩
  rw [← es] at st hL
  exact k.ret H2 m L ⟨st.meet, fun b o e n hb => st.keep b o (s1 _ _ e) n hb, fun b o e n hb => st.supp b o (s1 _ _ e) n hb, fun b o e n hb => st.foots b o (s1 _ _ e) n hb⟩ hL fun b o e n hb => nL b o (s1 _ _ e) n hb
end
end Cm
namespace Cm
open PySem PySem.Spec PyProof.Rows L2 LamX
section
variable {P : Program} {w : World} {K : PySem.W.Frag} {mg : Str → Option Value} {base : Heap} {A : Ads}
/-! time -/
def spTime (A : Ads) : Sp := fun vs H Q E => ∃ (M : Addr) (m : MA) (s : Kg83.State) (i t p : Int), vs = [.ref M, .int i, .int t, .int p] ∧ MeetAt A H M m s ∧ Ends A H M m s (.time i t p) Q E
theorem Ends.put {H H1 : Hp} {M : Addr} {m : MA} {s : Kg83.State} {c : Kg83.Call} {Q : VK} {E : XK} {k : Nat} {x : Kg83.Try} (h : Ends A H M m s c Q E) (s1 : Same H H1) (es : Kg83.spec s c = Kg83.putTry s k x) :
    ∀ H' L, MStep A H1 M m s H' m (Kg83.putTry s k x).1 → H' L = some (.lst (((Kg83.putTry s k x).2.value :: (Kg83.putTry s k x).2.out).map V.int)) → NewL H1 M m s L → Q (.ref L) H' := fun H2 L st hL nL => by
  rw [← es] at st hL
  exact h.ret H2 m L ⟨st.meet, fun b o e n hb => st.keep b o (s1 _ _ e) n hb, fun b o e n hb => st.supp b o (s1 _ _ e) n hb, fun b o e n hb => st.foots b o (s1 _ _ e) n hb⟩ hL fun b o e n hb => nL b o (s1 _ _ e) n hb
theorem sc_time : FnScope ["meet", "i", "hundredths", "penalties", "current"] ["meet", "i", "hundredths", "penalties"] (defScope s_time) := ⟨rfl, rfl, rfl, by decide +kernel, rfl, by decide +kernel, by decide +kernel⟩
theorem ok_time (T : Txt K mg A) : Has P w K mg base (L2.CX P w) 8 A.time ["meet", "i", "hundredths", "penalties"] (spTime A) := by
  refine T.f_time.okX sc_time (fun vs H Q E h => ?_) (fun cdv Ar outer s0 H vs Q E hr h => ?_)
  · obtain ⟨_, _, _, _, _, _, rfl, _⟩ := h
    rfl
  obtain ⟨M, m, s, i, t, p, rfl, hM, k⟩ := h
  have G_must := ok_must (P := P) (w := w) (base := base) T
  have G_is_within := ok_is_within (P := P) (w := w) (base := base) T
  have G_must_attempt := ok_must_attempt (P := P) (w := w) (base := base) T
  have G_put_attempt := ok_put_attempt (P := P) (w := w) (base := base) T
  have G_timed := ok_timed (P := P) (w := w) (base := base) T
  have px := passes_call (X := cxOf (L2.CX P w) P w K mg base ["meet", "i", "hundredths", "penalties", "current"] "time" (defScope s_time) A.time cdv Ar outer s0 H E) (takes_of rfl rfl rfl rfl) (fun _ _ _ _ h => h)
  obtain ⟨_, g_FEWEST⟩ := T.i_FEWEST
  obtain ⟨_, g_MOST_HUNDREDTHS⟩ := T.i_MOST_HUNDREDTHS
  obtain ⟨_, g_MOST_PENALTIES⟩ := T.i_MOST_PENALTIES
  refine ⟨_, (pss_cons (ps_expr (pe_c G_must (hr.mono (by decide)) rfl T.g_must px (pa_cons (pe_and (pe_c G_is_within (hr.mono (by decide)) rfl T.g_is_within pass0 (pa_cons (pv 2) (pa_cons pe_int (pa_cons (pe_gi rfl g_MOST_HUNDREDTHS) pa_nil)))) (pe_one (pe_c G_is_within (hr.mono (by decide)) rfl T.g_is_within pass0 (pa_cons (pv 3) (pa_cons pe_int (pa_cons (pe_gi rfl g_MOST_PENALTIES) pa_nil)))))) (pa_cons (pe_un un_neg pe_int) pa_nil))))
    (pss_cons (ps_set (i := 4) sc_time.nd rfl (Or.inl rfl) (pe_c G_must_attempt (hr.mono (by decide)) rfl T.g_must_attempt px (pa_cons (pv 0) (pa_cons (pv 1) pa_nil))))
    (pss_cons (ps_expr (pe_c G_must (hr.mono (by decide)) rfl T.g_must px (pa_cons (pe_cmpR op_ne (pe_fld (pv 4) rfl) (pe_gi rfl g_FEWEST) (nomark _)) (pa_cons (pe_un un_neg pe_int) pa_nil))))
    (pss_one (ps_ret (pe_c G_put_attempt (hr.mono (by decide)) rfl T.g_put_attempt pass0 (pa_cons (pv 4) (pa_cons (pv 1) (pa_cons (pe_m (pv 4) T.c_Round T.m_Round_timed G_timed (hr.mono (by decide)) pass0 (pa_cons (pv 2) (pa_cons (pv 3) pa_nil))) pa_nil))))))))), ?_⟩
  have es0 : (Kg83.within t 1 1000000 && Kg83.within p 0 9) = false → Kg83.spec s (.time i t p) = (s, Kg83.num (-1)) := fun hw => by
    show (if _ then _ else _) = _
    rw [if_pos hw]
  have es1 : (Kg83.within t 1 1000000 && Kg83.within p 0 9) = true → Kg83.spec s (.time i t p) = Kg83.onTry s i fun k => if s.kind = 3 then (s, Kg83.num (-4)) else Kg83.putTry s k (if s.limit < t.toNat + 200 * p.toNat then none else some (t.toNat + 200 * p.toNat)) := fun hw => by
    show (if (Kg83.within t 1 1000000 && Kg83.within p 0 9) = false then _ else _) = _
    rw [if_neg (by rw [hw]; decide)]
  refine ⟨_, rfl, t, 1, 1000000, rfl, _, rfl, ?_⟩
  by_cases h1 : Kg83.within t 1 1000000 = true
  · refine ifT h1 ⟨_, rfl, p, 0, 9, rfl, _, rfl, _, _, rfl, fun h2 => ?_, fun h2 => k.ref0 hM (es0 (by rw [h2, Bool.and_false])) (fun _ _ e => e)⟩
    obtain ⟨t1, t2⟩ := within_iff.mp h1
    obtain ⟨p1, p2⟩ := within_iff.mp h2
    refine ⟨_, rfl, _, rfl, M, m, s, i, rfl, hM, onTry_ends hM k (fun _ _ e => e) (es1 (by rw [h1, h2]; rfl)) fun h0 hin hlt es H1 s1 => ?_⟩
    obtain ⟨i0, hmem⟩ := isIn_mem hin
    have hR := hM.rnd h0
    have hR1 := hR.same s1
    have al := allowed_le s i.toNat
    refine ⟨_, rfl, m.r, A.CRound, m.R.dx, _, _, rfl, hR1.ins, T.c_Round, T.n_Round_kind, rF_kind s m.R, rfl, _, rfl, _, _, rfl, fun h3 => ?_, fun h3 => ?_⟩
    · have h3 : s.kind ≠ 3 := by
        intro z
        rw [z] at h3
        cases h3
      rw [if_neg h3] at es
      refine ⟨_, rfl, _, rfl, _, rfl, m.r, m.R.dx, _, rfl, hR1.ins, rF_timed s m.R, _, rfl, _, rfl, m.r, m.R, s, t.toNat, p.toNat, (by rw [nI_toNat (by omega), nI_toNat p1]), hR1, ?_⟩
      refine ⟨M, m, s, i.toNat, _, (by rw [nI_toNat i0]), hM.same s1, h0, hmem, by omega, fun n e => ?_, k.put s1 es⟩
      split at e
      · cases e
      · cases e
        have := hR.wf.lim
        omega
    · have h3 : s.kind = 3 := by
        by_cases z : s.kind = 3
        · exact z
        · have q : decide (nI s.kind = V.int 3) = false := (nI_eq (a := s.kind) (b := 3)).trans (decide_eq_false z)
          have h3 : (!decide (nI s.kind = V.int 3)) = false := h3
          rw [q] at h3
          cases h3
      rw [if_pos h3] at es
      exact k.ref0 hM es s1
  · have h1' : Kg83.within t 1 1000000 = false := by simpa using h1
    exact ifF h1' ⟨_, rfl, _, _, rfl, (fun z => by cases z), fun _ => k.ref0 hM (es0 (by rw [h1', Bool.false_and])) (fun _ _ e => e)⟩
/-! solution -/
def spSolution (K : PySem.W.Frag) (A : Ads) : Sp := fun vs H Q E => ∃ (M : Addr) (m : MA) (s : Kg83.State) (i : Int) (a : Addr) (l : List Int), vs = [.ref M, .int i, .ref a] ∧ MeetAt A H M m s ∧ H a = some (.lst (l.map V.int)) ∧ l.length ≤ 1000 ∧ Ends A H M m s (.solution i l) Q E
def solTry (s : Kg83.State) (l : List Int) (k : Nat) : Kg83.State × Kg83.Ans := if s.kind ≠ 3 then (s, Kg83.num (-4)) else match s.scrambles[(s.triesOf k).length]? with
  | none => (s, Kg83.num (-6))
  | some z => Kg83.putTry s k (if l.length ≤ 80 ∧ Kg83.isSolved (Kg83.moves (Kg83.moves Kg83.solved z) (Kg83.nats l)) = true then some (100 * l.length) else none)
theorem sc_solution : FnScope ["meet", "i", "moves", "current", "number", "colours"] ["meet", "i", "moves"] (defScope s_solution) := ⟨rfl, rfl, rfl, by decide +kernel, rfl, by decide +kernel, by decide +kernel⟩
theorem ok_solution (T : Txt K mg A) : Has P w K mg base (L2.CX P w) 8 A.solution ["meet", "i", "moves"] (spSolution K A) := by
  refine T.f_solution.okX sc_solution (fun vs H Q E h => ?_) (fun cdv Ar outer s0 H vs Q E hr h => ?_)
  · obtain ⟨_, _, _, _, _, _, rfl, _⟩ := h
    rfl
  obtain ⟨M, m, s, i, a, l, rfl, hM, ha, hl, k⟩ := h
  have G_must := ok_must (P := P) (w := w) (base := base) T
  have G_are_moves := ok_are_moves (P := P) (w := w) (base := base) T
  have G_moved := ok_moved (P := P) (w := w) (base := base) T
  have G_solved_cube := ok_solved_cube (P := P) (w := w) (base := base) T
  have G_is_solved := ok_is_solved (P := P) (w := w) (base := base) T
  have G_must_attempt := ok_must_attempt (P := P) (w := w) (base := base) T
  have G_put_attempt := ok_put_attempt (P := P) (w := w) (base := base) T
  have G_solution_count := ok_solution_count (P := P) (w := w) (base := base) T
  have px := passes_call (X := cxOf (L2.CX P w) P w K mg base ["meet", "i", "moves", "current", "number", "colours"] "solution" (defScope s_solution) A.solution cdv Ar outer s0 H E) (takes_of rfl rfl rfl rfl) (fun _ _ _ _ h => h)
  obtain ⟨_, g_FEWEST⟩ := T.i_FEWEST
  obtain ⟨_, g_MOST_SOLUTION⟩ := T.i_MOST_SOLUTION
  refine ⟨_, (pss_cons (ps_expr (pe_c G_must (hr.mono (by decide)) rfl T.g_must px (pa_cons (pe_c G_are_moves (hr.mono (by decide)) rfl T.g_are_moves pass0 (pa_cons (pv 2) (pa_cons (pe_gi rfl g_MOST_SOLUTION) pa_nil))) (pa_cons (pe_un un_neg pe_int) pa_nil))))
    (pss_cons (ps_set (i := 3) sc_solution.nd rfl (Or.inl rfl) (pe_c G_must_attempt (hr.mono (by decide)) rfl T.g_must_attempt px (pa_cons (pv 0) (pa_cons (pv 1) pa_nil))))
    (pss_cons (ps_expr (pe_c G_must (hr.mono (by decide)) rfl T.g_must px (pa_cons (pe_cmpR op_eq (pe_fld (pv 3) rfl) (pe_gi rfl g_FEWEST) (nomark _)) (pa_cons (pe_un un_neg pe_int) pa_nil))))
    (pss_cons (ps_set (i := 4) sc_solution.nd rfl (Or.inl rfl) (pe_callB call_len_seq (by rfl) T.b_len PySem.boot_len (pa_cons (pe_dget (hu_of hr) (pe_fld (pv 3) rfl) (pv 1) (fun _ _ => rfl)) pa_nil)))
    (pss_cons (ps_expr (pe_c G_must (hr.mono (by decide)) rfl T.g_must px (pa_cons (pe_cmpR op_lt (pv 4) (pe_callB call_len_seq (by rfl) T.b_len PySem.boot_len (pa_cons (pe_fld (pv 3) rfl) pa_nil)) (nomark _)) (pa_cons (pe_un un_neg pe_int) pa_nil))))
    (pss_cons (ps_set (i := 5) sc_solution.nd rfl (Or.inl rfl) (pe_m (pe_fld (pv 0) rfl) T.c_Turns T.m_Turns_moved G_moved (hr.mono (by decide)) pass0 (pa_cons (pe_c0 G_solved_cube (hr.mono (by decide)) rfl T.g_solved_cube pass0) (pa_cons (pe_op op_cat (pe_ix ix_list (pe_fld (pv 3) rfl) (pv 4) (fun _ _ => rfl)) (pv 2)) pa_nil))))
    (pss_one (ps_ret (pe_c G_put_attempt (hr.mono (by decide)) rfl T.g_put_attempt pass0 (pa_cons (pv 3) (pa_cons (pv 1) (pa_cons (pe_c G_solution_count (hr.mono (by decide)) rfl T.g_solution_count pass0 (pa_cons (pv 2) (pa_cons (pe_c G_is_solved (hr.mono (by decide)) rfl T.g_is_solved pass0 (pa_cons (pv 5) pa_nil)) pa_nil))) pa_nil)))))))))))), ?_⟩
  have es1 : Kg83.okMoves l 90 = true → Kg83.spec s (.solution i l) = Kg83.onTry s i (solTry s l) := fun hw => by
    show (if Kg83.okMoves l 90 = false then _ else _) = _
    rw [if_neg (by rw [hw]; decide)]
    rfl
  refine ⟨_, rfl, a, l, 90, rfl, SqL.of ha, hl, fun H1 s1 => ⟨_, rfl, _, _, rfl, fun hw => ?_, fun hw => ?_⟩⟩
  · obtain ⟨el, e18, el3⟩ := okMoves_nats hw
    refine ⟨_, rfl, _, rfl, M, m, s, i, rfl, hM.same s1, onTry_ends hM k s1 (es1 hw) fun h0 hin hlt es H2 s2 => ?_⟩
    have s12 := s1.trans s2
    obtain ⟨i0, hmem⟩ := isIn_mem hin
    have hM2 := hM.same s12
    have hR := hM.rnd h0
    have hR2 := hR.same s12
    have al := allowed_le s i.toNat
    unfold solTry at es
    refine ⟨_, rfl, m.r, A.CRound, m.R.dx, _, _, rfl, hR2.ins, T.c_Round, T.n_Round_kind, rF_kind s m.R, rfl, _, rfl, _, _, rfl, fun h3 => ?_, fun h3 => ?_⟩
    · have h3 : s.kind = 3 := of_decide_eq_true ((nI_eq (a := s.kind) (b := 3)).symm.trans h3)
      rw [if_neg (by intro z; exact z h3)] at es
      obtain ⟨_, b, _, _, hg, hb⟩ := hR2.get hmem
      rw [nI_toNat i0] at hg
      refine ⟨_, rfl, m.r, A.CRound, m.R.dx, _, _, rfl, hR2.ins, T.c_Round, T.n_Round_attempts, rF_attempts s m.R, _, rfl, m.R.att, .ref b, rfl, hg, b, _, rfl, .inl (SqL.of hb), ?_⟩
      refine ⟨_, rfl, _, rfl, m.r, A.CRound, m.R.dx, _, _, rfl, hR2.ins, T.c_Round, T.n_Round_scrambles, rF_scrambles s m.R, m.R.sc, _, rfl, .inl (SqL.of hR2.scr), _, _, rfl, rfl, _, rfl, _, _, rfl, fun h5 => ?_, fun h5 => ?_⟩
      · have h5 := of_decide_eq_true h5
        rw [List.length_map, List.length_map, hR.scl] at h5
        have h5 : (s.triesOf i.toNat).length < s.scrambles.length := by omega
        obtain ⟨z, hz⟩ : ∃ z, s.scrambles[(s.triesOf i.toNat).length]? = some z := ⟨_, List.getElem?_eq_getElem h5⟩
        obtain ⟨c, hc⟩ : ∃ c, m.R.scs[(s.triesOf i.toNat).length]? = some c := ⟨_, List.getElem?_eq_getElem (by rw [hR.scl]; exact h5)⟩
        have hzc := hR2.sc_ _ z c hz hc
        obtain ⟨z30, z18⟩ := hR.wf.scm z (List.mem_of_getElem? hz)
        rw [hz] at es
        refine ⟨_, rfl, M, A.CMeet, m.dx, _, _, rfl, hM2.ins, T.c_Meet, T.n_Meet_turns, mF_turns m s, m.tn, m.tdx, _, rfl, hM2.tp.t1, rfl, ?_⟩
        refine ⟨rfl, fun H3 q s3 hq => ?_⟩
        refine ⟨_, rfl, m.r, A.CRound, m.R.dx, _, _, rfl, s3 _ _ hR2.ins, T.c_Round, T.n_Round_scrambles, rF_scrambles s m.R, _, rfl, m.R.sc, _, _, .ref c, rfl, rfl, SqL.of (s3 _ _ hR2.scr), ?_, _, rfl, c, a, _, _, rfl, rfl, s3 _ _ hzc, s3 _ _ (s12 _ _ ha), ?_, fun p np => ?_⟩
        · rw [List.length_map]
          exact atI_nat (by rw [List.getElem?_map, hc]; rfl)
        · rw [List.length_map, List.length_map, sizeLine_eq]
          omega
        have s4 := s3.trans (Same.new (o := .lst (z.map nI ++ l.map V.int)) np)
        refine ⟨m.tn, q, p, Kg83.solved, z ++ Kg83.nats l, rfl, hM2.tp.at_.same s4, Same.new np _ _ hq, (by decide), SqL.of (by rw [List.map_append, ← el]; exact upd_same), fun x hx => (List.mem_append.mp hx).elim (z18 x) (e18 x), fun H5 d s5 hd => ?_⟩
        rw [moves_append] at hd
        have s15 := (s12.trans s4).trans s5
        refine ⟨_, rfl, _, rfl, _, rfl, _, rfl, d, _, rfl, hd, fun H6 s6 => ?_⟩
        have s16 := s15.trans s6
        refine ⟨a, l, _, rfl, SqL.of (s16 _ _ ha), M, m, s, i.toNat, _, (by rw [nI_toNat i0]), hM.same s16, h0, hmem, by omega, fun n e => ?_, k.put s16 es⟩
        split at e
        · rename_i h80
          cases e
          omega
        · cases e
      · have h5 := of_decide_eq_false h5
        rw [List.length_map, List.length_map, hR.scl] at h5
        rw [List.getElem?_eq_none (by omega)] at es
        exact k.ref0 hM es s12
    · have h3 : s.kind ≠ 3 := of_decide_eq_false ((nI_eq (a := s.kind) (b := 3)).symm.trans h3)
      rw [if_pos h3] at es
      exact k.ref0 hM es s12
  · exact k.ref0 hM (by show (if Kg83.okMoves l 90 = false then _ else _) = _; rw [if_pos hw]) s1
end
end Cm
namespace Cm
open PySem PySem.Spec PyProof.Rows L2 LamX
theorem wf_fresh {s : Kg83.State} {k l c : Nat} {who : List Nat} {n : Nat} (hn : s.number ≤ 40) (hk : k ≤ 3) (hl : l ≤ 360000) (nd : who.Nodup) (h40 : who.length ≤ 40) (lt : ∀ i ∈ who, i < s.number) : WF (freshS s k l c who n) := by
  refine ⟨hn, hk, hl, nd, h40, lt, ?_, fun i => ?_, fun i x hx => ?_, fun i _ => fresh_tries s k l c who n i, (by show 0 ≤ 3; decide), fun z hz => ?_⟩
  · show (List.replicate s.number ([] : List Kg83.Try)).length = s.number
    exact List.length_replicate
  · rw [fresh_tries]
    exact Nat.zero_le _
  · rw [fresh_tries] at hx
    cases hx
  · cases (show z ∈ ([] : List (List Nat)) from hz)
section
variable {P : Program} {w : World} {K : PySem.W.Frag} {mg : Str → Option Value} {base : Heap} {A : Ads}
/-! begin_round -/
def spRound (A : Ads) : Sp := fun vs H Q E => ∃ (M : Addr) (m : MA) (s : Kg83.State) (k l c z : Int), vs = [.ref M, .int k, .int l, .int c, .int z] ∧ MeetAt A H M m s ∧ Ends A H M m s (.round_ k l c z) Q E
theorem sc_begin_round : FnScope ["meet", "kind", "limit", "cutoff", "size", "members", "before", "member", "place"] ["meet", "kind", "limit", "cutoff", "size"] (defScope s_begin_round) := ⟨rfl, rfl, rfl, by decide +kernel, rfl, by decide +kernel, by decide +kernel⟩
theorem ok_begin_round (T : Txt K mg A) (TB : TabB base mg A.cOrder A.pOrder) : Has P w K mg base (L2.CX P w) 14 A.begin_round ["meet", "kind", "limit", "cutoff", "size"] (spRound A) := by
  refine T.f_begin_round.okX sc_begin_round (fun vs H Q E h => ?_) (fun cdv Ar outer s0 H vs Q E hr h => ?_)
  · obtain ⟨_, _, _, _, _, _, _, rfl, _⟩ := h
    rfl
  obtain ⟨M, m, s, kd, lm, ct, sz, rfl, hM, k⟩ := h
  have G_must := ok_must (P := P) (w := w) (base := base) T
  have G_is_within := ok_is_within (P := P) (w := w) (base := base) T
  have G_is_over := ok_is_over (P := P) (w := w) (base := base) T
  have G_order := ok_order (P := P) (w := w) (base := base) T TB
  have G_Round := ok_Round_init (P := P) (w := w) (base := base) T
  have px := passes_call (X := cxOf (L2.CX P w) P w K mg base ["meet", "kind", "limit", "cutoff", "size", "members", "before", "member", "place"] "begin_round" (defScope s_begin_round) A.begin_round cdv Ar outer s0 H E) (takes_of rfl rfl rfl rfl) (fun _ _ _ _ h => h)
  obtain ⟨_, g_MOST_TIME⟩ := T.i_MOST_TIME
  obtain ⟨_, g_MOST_COMPETITORS⟩ := T.i_MOST_COMPETITORS
  obtain ⟨_, g_FEWEST⟩ := T.i_FEWEST
  obtain ⟨t, ht, hq⟩ : ∃ t, PSs (cxOf (L2.CX P w) P w K mg base ["meet", "kind", "limit", "cutoff", "size", "members", "before", "member", "place"] "begin_round" (defScope s_begin_round) A.begin_round cdv Ar outer s0 H E) ((defBody s_begin_round).drop 5) t ∧ ∀ (bv p1 p2 : Option V) (H1 : Hp) (mem : Addr) (who : List Nat), ExtN H H1 → Tabs (tabO A) H1 → H1 mem = some (.lst (who.map nI)) →
      who.Nodup → who.length ≤ 40 → (∀ i ∈ who, i < s.number) → 0 ≤ kd → kd ≤ 3 → 0 ≤ lm → lm ≤ 360000 → 0 ≤ ct → Kg83.spec s (.round_ kd lm ct sz) = (freshS s kd.toNat lm.toNat ct.toNat who (s.round + 1), ⟨(s.round + 1 : Nat), Kg83.whole who⟩) → (∀ b o, H b = some o → (∀ ps, o ≠ .tbl ps) → b ≠ mem) →
      t { nx := fun _ H' => Q .non H', rt := Q } [some (.ref M), some (.int kd), some (.int lm), some (.int ct), some (.int sz), some (.ref mem), bv, p1, p2] H1 := by
    refine ⟨_, (pss_cons (ps_fld (pv 0) (pe_mk T.k_Round G_Round (hr.mono (by decide)) rfl T.g_Round pass0 (pa_cons (pv 1) (pa_cons (pv 2) (pa_cons (pv 3) (pa_cons (pv 5) pa_nil))))) rfl)
    (pss_cons (ps_fldaug (pv 0) pe_int in_add)
    (pss_one (ps_ret (pe_op op_cat (pe_lst (pa_cons (pe_fld (pv 0) rfl) pa_nil)) (pv 5)))))), ?_⟩
    intro bv p1 p2 H1 mem who e1 t1 hmem nd h40 lt kd0 kd3 lm0 lm3 ct0 es nmem
    have hM1 := hM.ext e1 t1
    refine ⟨_, rfl, _, rfl, _, rfl, _, rfl, fun x dx nx ndx ne => ?_⟩
    have mx : mem ≠ x := ne_of_none hmem nx
    have mdx : mem ≠ dx := ne_of_none hmem ndx
    have old : ∀ b o, H1 b = some o → upd (upd H1 dx (.own x)) x (.ins A.CRound dx []) b = some o := fun b o e => by
      rw [upd_ne (ne_of_none e nx), upd_ne (ne_of_none e ndx)]
      exact e
    refine ⟨x, dx, mem, kd.toNat, lm.toNat, ct.toNat, who, (by rw [nI_toNat kd0, nI_toNat lm0, nI_toNat ct0]), upd_same, old _ _ hmem, nd, by omega, fun H2 att sc as keep natt nsc nas hp hatt hal has hsc nds => ⟨rfl, ?_⟩⟩
    have old2 : ∀ b o, H1 b = some o → H2 b = some o := fun b o e => keep b o (old b o e) (ne_of_none e nx)
    refine ⟨_, rfl, M, A.CMeet, m.dx, _, rfl, old2 _ _ hM1.ins, T.c_Meet, T.n_Meet_current, (by show 4 < 1000; decide), ?_⟩
    refine ⟨_, rfl, M, A.CMeet, m.dx, _, _, rfl, upd_same, T.c_Meet, T.n_Meet_rounds, (show List.lookup ("rounds" : Str) (putF "current" (V.ref x) (mF m s)) = some (nI s.round) from rfl), ?_⟩
    refine ⟨_, _, rfl, rfl, m.dx, _, upd_same, (by show 4 < 1000; decide), ?_⟩
    rw [upd_upd]
    have xM : x ≠ M := (ne_of_none hM1.ins nx).symm
    have e4 : putF "rounds" (.int ((s.round : Int) + 1)) (putF "current" (.ref x) (mF m s)) = mF { m with r := x, R := ⟨dx, mem, att, sc, as, []⟩ } (freshS s kd.toNat lm.toNat ct.toNat who (s.round + 1)) := by
      show ([("turns", .ref m.tn), ("competitors", nI s.number), ("rounds", .int ((s.round : Int) + 1)), ("current", .ref x)] : List (Str × V)) = ([("turns", .ref m.tn), ("competitors", nI s.number), ("rounds", nI (s.round + 1)), ("current", curV { m with r := x, R := ⟨dx, mem, att, sc, as, []⟩ } (freshS s kd.toNat lm.toNat ct.toNat who (s.round + 1)))] : List (Str × V))
      rw [curV_yes (show (freshS s kd.toNat lm.toNat ct.toNat who (s.round + 1)).round ≠ 0 from Nat.succ_ne_zero _)]
      rfl
    rw [e4]
    have nsc1 : H1 sc = none := (upd_free (upd_free nsc).2).2
    have natt1 : H1 att = none := (upd_free (upd_free natt).2).2
    have nas1 : ∀ a ∈ as, H1 a = none := fun a ha => (upd_free (upd_free (nas a ha)).2).2
    have h2M := old2 _ _ hM1.ins
    have keepM : ∀ b o, H2 b = some o → b ≠ M → upd H2 M (.ins A.CMeet m.dx (mF { m with r := x, R := ⟨dx, mem, att, sc, as, []⟩ } (freshS s kd.toNat lm.toNat ct.toNat who (s.round + 1)))) b = some o := fun b o e hb => (upd_ne hb).trans e
    have lM : ∀ b xs, H2 b = some (.lst xs) → b ≠ M := fun b xs e => ne_of e h2M (by intro z; cases z)
    have r1 : (freshS s kd.toNat lm.toNat ct.toNat who (s.round + 1)).round ≠ 0 := Nat.succ_ne_zero _
    have tp := hM1.tp
    have hM3 : MeetAt A (upd H2 M (.ins A.CMeet m.dx (mF { m with r := x, R := ⟨dx, mem, att, sc, as, []⟩ } (freshS s kd.toNat lm.toNat ct.toNat who (s.round + 1))))) M { m with r := x, R := ⟨dx, mem, att, sc, as, []⟩ } (freshS s kd.toNat lm.toNat ct.toNat who (s.round + 1)) := by
      refine ⟨upd_same, ⟨keepM _ _ (old2 _ _ tp.t1) hM.tnM, keepM _ _ (old2 _ _ tp.t2) (hM.trM (.inr (.inl rfl))), tp.t3, fun f r hr => keepM _ _ (old2 _ _ (tp.t4 f r hr)) (hM.trM (.inr (.inr (List.mem_of_getElem? hr))))⟩, fun b hb hb2 => ?_, fun _ => ?_, fun z => absurd z r1, hM.num, ?_⟩
      · unfold mutA at hb2
        rw [if_neg r1] at hb2
        have live : ∃ o, H1 b = some o := by
          rcases List.mem_cons.mp hb with z | z
          · exact ⟨_, by rw [z]; exact tp.t2⟩
          · obtain ⟨f, hf⟩ := List.mem_iff_getElem?.mp z
            exact ⟨_, tp.t4 f b hf⟩
        obtain ⟨o, ho⟩ := live
        rcases List.mem_cons.mp hb2 with z | z
        · have z : b = sc := z
          rw [z, nsc1] at ho
          cases ho
        · rw [nas1 b z] at ho
          cases ho
      · refine ⟨keepM _ _ hp xM, keepM _ _ (old2 _ _ hmem) (lM _ _ (old2 _ _ hmem)), keepM _ _ hatt (ne_of hatt h2M (by intro z; cases z)), hal, fun n i a h1 h2 => ?_, keepM _ _ hsc (lM _ _ hsc), rfl, fun n z a h1 _ => ?_, ?_, wf_fresh hM.num (by omega) (by omega) nd h40 lt⟩
        · rw [fresh_tries]
          have := has a (List.mem_of_getElem? h2)
          exact keepM _ _ this (lM _ _ this)
        · cases (show ([] : List (List Nat))[n]? = some z from h1)
        · show (sc :: mem :: (as ++ [])).Nodup
          rw [List.append_nil]
          obtain ⟨n1, n2⟩ := List.nodup_cons.mp nds
          refine List.nodup_cons.mpr ⟨fun z => ?_, List.nodup_cons.mpr ⟨fun z => ?_, n2⟩⟩
          · rcases List.mem_cons.mp z with q | q
            · rw [← q, nsc1] at hmem
              cases hmem
            · exact n1 q
          · rw [nas1 mem z] at hmem
            cases hmem
      · exact tabs_lst (t1.ext old2) h2M (fun _ z => by cases z) ins_code
    generalize upd H2 M (.ins A.CMeet m.dx (mF { m with r := x, R := ⟨dx, mem, att, sc, as, []⟩ } (freshS s kd.toNat lm.toNat ct.toNat who (s.round + 1)))) = H3 at hM3 keepM ⊢
    refine ⟨_, rfl, M, A.CMeet, m.dx, _, _, rfl, hM3.ins, T.c_Meet, T.n_Meet_rounds, mF_rounds _ _, (by show 1 ≤ sizeLine; decide), fun q nq => ?_⟩
    refine ⟨_, rfl, q, mem, _, _, rfl, rfl, upd_same, Same.new nq _ _ (keepM _ _ (old2 _ _ hmem) (lM _ _ (old2 _ _ hmem))), ?_, fun L nL => ?_⟩
    · rw [List.length_map, sizeLine_eq]
      show 1 + _ ≤ _
      omega
    have keepA : ∀ b o, H b = some o → (∀ ps, o ≠ .tbl ps) → b ∉ foot M m s → upd H3 q (.lst [nI (s.round + 1)]) b = some o := fun b o e n hb => Same.new nq _ _ (keepM b o (old2 _ _ (e1 b o e n)) fun z => hb (by rw [z]; exact List.mem_cons_self))
    refine k.ret _ { m with r := x, R := ⟨dx, mem, att, sc, as, []⟩ } L ?_ ?_ (NewL.of keepA nL)
    · rw [es]
      refine ⟨hM3.same ((Same.new nq).trans (Same.new nL)), fun b o e n hb => Same.new nL _ _ (keepA b o e n hb), fun b o e n hb hb2 => ?_, fun b o e n hb hb2 => ?_⟩
      · have eb := e1 b o e n
        unfold supp rest at hb2
        rw [if_neg r1] at hb2
        unfold supp at hb
        simp at hb hb2
        rcases hb2 with z | z | z | z | z | z | z | z | z
        · exact hb.1 z
        · exact hb.2.1 z
        · exact hb.2.2.1 z
        · exact hb.2.2.2.1 z
        · rw [z, nx] at eb
          cases eb
        · exact nmem b o e n z
        · rw [z, natt1] at eb
          cases eb
        · rw [z, nsc1] at eb
          cases eb
        · rw [nas1 b z] at eb
          cases eb
      · have eb := e1 b o e n
        unfold foot mutA at hb2
        rw [if_neg r1] at hb2
        rcases List.mem_cons.mp hb2 with z | z
        · exact hb (by rw [z]; exact List.mem_cons_self)
        · rcases List.mem_cons.mp z with z | z
          · have z : b = sc := z
            rw [z, nsc1] at eb
            cases eb
          · rw [nas1 b z] at eb
            cases eb
    · rw [es, upd_same, List.map_cons, wholeV]
      rfl
  refine ⟨_, (pss_cons (ps_expr (pe_c G_must (hr.mono (by decide)) rfl T.g_must px (pa_cons (pe_and (pe_c G_is_within (hr.mono (by decide)) rfl T.g_is_within pass0 (pa_cons (pv 1) (pa_cons pe_int (pa_cons (pe_gi rfl g_FEWEST) pa_nil)))) (pe_one (pe_c G_is_within (hr.mono (by decide)) rfl T.g_is_within pass0 (pa_cons (pv 2) (pa_cons pe_int (pa_cons (pe_gi rfl g_MOST_TIME) pa_nil)))))) (pa_cons (pe_un un_neg pe_int) pa_nil))))
    (pss_cons (ps_expr (pe_c G_must (hr.mono (by decide)) rfl T.g_must px (pa_cons (pe_and (pe_c G_is_within (hr.mono (by decide)) rfl T.g_is_within pass0 (pa_cons (pv 3) (pa_cons pe_int (pa_cons (pe_gi rfl g_MOST_TIME) pa_nil)))) (pe_one (pe_c G_is_within (hr.mono (by decide)) rfl T.g_is_within pass0 (pa_cons (pv 4) (pa_cons pe_int (pa_cons (pe_gi rfl g_MOST_COMPETITORS) pa_nil)))))) (pa_cons (pe_un un_neg pe_int) pa_nil))))
    (pss_cons (ps_expr (pe_c G_must (hr.mono (by decide)) rfl T.g_must px (pa_cons (pe_cmpR op_gt (pe_fld (pv 0) rfl) pe_int (nomark _)) (pa_cons (pe_un un_neg pe_int) pa_nil))))
    (pss_cons (ps_set (i := 5) sc_begin_round.nd rfl (Or.inl rfl) (pe_listRg rfl (by rfl) T.b_list (prg_1 (by rfl) T.b_range (pe_fld (pv 0) rfl))))
    (pss_cons (ps_if (pt_cmpR op_notN (pe_fld (pv 0) rfl) pe_non (nomark _)) (pss_cons (ps_set (i := 6) sc_begin_round.nd rfl (Or.inl rfl) (pe_fld (pv 0) rfl))
    (pss_cons (ps_expr (pe_c G_must (hr.mono (by decide)) rfl T.g_must px (pa_cons (pe_m0 (pv 6) T.c_Round T.m_Round_is_over G_is_over (hr.mono (by decide)) pass0) (pa_cons (pe_un un_neg pe_int) pa_nil))))
    (pss_cons (ps_set (i := 5) sc_begin_round.nd rfl (Or.inl rfl) (pe_slice sl_list (pe_lc (own := [("member", 7), ("place", 8)]) (g := gTup K 2 (gCons (gName 7) (gCons (gName 8) gNil))) (tt := tYes) rfl sc_begin_round.nd (pi_list (pe_m0 (pv 6) T.c_Round T.m_Round_order G_order (hr.mono (by decide)) pass0)) (blkOk_by (N := ["meet", "kind", "limit", "cutoff", "size", "members", "before", "member", "place"]) (sc := defScope s_begin_round) (by decide +kernel)) (fun _ _ _ _ _ => (pg_tup rfl (pgs_cons (pg_name (i := 7) sc_begin_round.nd rfl (Or.inl rfl)) (pgs_cons (pg_name (i := 8) sc_begin_round.nd rfl (Or.inl rfl)) pgs_nil)))) (fun _ _ _ _ _ => pts_nil) (fun _ _ _ _ _ => (pv 7))) po_none (po_some (pv 4))))
    (pss_one (ps_expr (pe_c G_must (hr.mono (by decide)) rfl T.g_must px (pa_cons (pe_cmpR (op_neD hr.units) (pv 5) (pe_lst pa_nil) (nomark _)) (pa_cons (pe_un un_neg pe_int) pa_nil)))))))) pss_nil)
    ht))))), ?_⟩
  have es0 : (Kg83.within kd 0 3 && (Kg83.within lm 1 360000 && (Kg83.within ct 0 360000 && Kg83.within sz 1 40))) = false → Kg83.spec s (.round_ kd lm ct sz) = (s, Kg83.num (-1)) := fun hw => by
    show (if _ then _ else _) = _
    rw [if_pos hw]
  have sH : Same H H := fun _ _ e => e
  refine ⟨_, rfl, kd, 0, 3, rfl, _, rfl, ?_⟩
  cases w1 : Kg83.within kd 0 3 with
  | false => exact ifF rfl ⟨_, rfl, _, _, rfl, (fun z => by cases z), fun _ => k.ref0 hM (es0 (by rw [w1]; rfl)) sH⟩
  | true =>
  refine ifT rfl ⟨_, rfl, lm, 1, 360000, rfl, _, rfl, _, _, rfl, fun w2 => ?_, fun w2 => k.ref0 hM (es0 (by rw [w1, w2]; rfl)) sH⟩
  refine ⟨_, rfl, ct, 0, 360000, rfl, _, rfl, ?_⟩
  cases w3 : Kg83.within ct 0 360000 with
  | false => exact ifF rfl ⟨_, rfl, _, _, rfl, (fun z => by cases z), fun _ => k.ref0 hM (es0 (by rw [w1, w2, w3]; rfl)) sH⟩
  | true =>
  refine ifT rfl ⟨_, rfl, sz, 1, 40, rfl, _, rfl, _, _, rfl, fun w4 => ?_, fun w4 => k.ref0 hM (es0 (by rw [w1, w2, w3, w4]; rfl)) sH⟩
  have es1 : Kg83.spec s (.round_ kd lm ct sz) = if s.number = 0 then (s, Kg83.num (-2)) else if s.round ≠ 0 ∧ s.over = false then (s, Kg83.num (-3)) else
      (let who := if s.round = 0 then List.range s.number else s.order.take sz.toNat
      if who = [] then (s, Kg83.num (-4)) else (freshS s kd.toNat lm.toNat ct.toNat who (s.round + 1), ⟨(s.round + 1 : Nat), Kg83.whole who⟩)) := by
    show (if (Kg83.within kd 0 3 && (Kg83.within lm 1 360000 && (Kg83.within ct 0 360000 && Kg83.within sz 1 40))) = false then _ else _) = _
    rw [if_neg (by rw [w1, w2, w3, w4]; decide)]
    rfl
  obtain ⟨k0, k3⟩ := within_iff.mp w1
  obtain ⟨l0, l3⟩ := within_iff.mp w2
  obtain ⟨c0, c3⟩ := within_iff.mp w3
  obtain ⟨z0, z3⟩ := within_iff.mp w4
  refine ⟨_, rfl, M, A.CMeet, m.dx, _, _, rfl, hM.ins, T.c_Meet, T.n_Meet_competitors, mF_competitors m s, _, _, rfl, rfl, _, rfl, _, _, rfl, fun h5 => ?_, fun h5 => ?_⟩
  · have h5 : s.number ≠ 0 := by
      have := of_decide_eq_true h5
      omega
    rw [if_neg h5] at es1
    have n40 := hM.num
    refine ⟨_, rfl, M, A.CMeet, m.dx, _, _, rfl, hM.ins, T.c_Meet, T.n_Meet_competitors, mF_competitors m s, _, rfl, RgOk.of_le (by decide) (by omega) (by decide) (by omega), fun q nq => ?_⟩
    have erg : rgV 0 (s.number : Int) = (List.range s.number).map nI := by
      unfold rgV
      rw [show ((s.number : Int) - 0).toNat = s.number by omega]
      refine List.map_congr_left fun i _ => ?_
      show V.int (0 + (i : Int)) = V.int i
      rw [Int.zero_add]
    rw [erg]
    have s1 : Same H (upd H q (.lst ((List.range s.number).map nI))) := Same.new nq
    have hM1 := hM.same s1
    refine ⟨_, rfl, M, A.CMeet, m.dx, _, _, rfl, hM1.ins, T.c_Meet, T.n_Meet_current, mF_current m s, rfl, _, rfl, ?_⟩
    rw [cur_none]
    by_cases h0 : s.round = 0
    · rw [if_neg (by intro z; exact z.1 h0)] at es1
      refine ifF (by rw [decide_eq_true h0]; rfl) ?_
      have es2 : Kg83.spec s (.round_ kd lm ct sz) = (freshS s kd.toNat lm.toNat ct.toNat (List.range s.number) (s.round + 1), ⟨(s.round + 1 : Nat), Kg83.whole (List.range s.number)⟩) := by
        rw [es1]
        show (if (if s.round = 0 then List.range s.number else s.order.take sz.toNat) = [] then (s, Kg83.num (-4)) else (freshS s kd.toNat lm.toNat ct.toNat (if s.round = 0 then List.range s.number else s.order.take sz.toNat) (s.round + 1), ⟨(s.round + 1 : Nat), Kg83.whole (if s.round = 0 then List.range s.number else s.order.take sz.toNat)⟩)) = _
        rw [if_pos h0, if_neg (by intro z; exact h5 (List.range_eq_nil.mp z))]
      exact hq _ _ _ _ q (List.range s.number) (ExtN.same s1) hM1.tabs upd_same List.nodup_range (by rw [List.length_range]; exact n40) (fun i hi => List.mem_range.mp hi) k0 k3 (by omega) l3 c0 es2 fun b o e _ => ne_of_none e nq
    refine ifT (by rw [decide_eq_false h0]; rfl) ?_
    have hR1 := hM1.rnd h0
    have wf := hR1.wf
    refine ⟨_, rfl, M, A.CMeet, m.dx, _, _, rfl, hM1.ins, T.c_Meet, T.n_Meet_current, mF_current m s, ?_⟩
    rw [curV_yes h0]
    refine ⟨_, rfl, m.r, m.R.dx, _, rfl, hR1.ins, rF_over s m.R, m.r, m.R, s, rfl, hR1, fun H2 s2 => ⟨_, rfl, _, _, rfl, fun ho => ?_, fun ho => ?_⟩⟩
    · rw [if_neg (by intro z; rw [ho] at z; cases z.2)] at es1
      have hM2 := hM1.same s2
      have hR2 := hR1.same s2
      refine ⟨_, rfl, m.r, m.R.dx, _, rfl, hR2.ins, rF_order s m.R, m.r, m.R, s, rfl, hR2, hM2.tabs, fun H3 L ps e3 t3 hL hl hps => ⟨L, rfl, ⟨_, SqL.of hL⟩, fun D nD => ?_⟩⟩
      refine lc_list (K := K) (a := L) (xs := ps.map V.ref) (fun j H' => Same H3 H' ∧ H' D = some (.lst ((s.order.take j).map nI))) ⟨Same.new nD, upd_same⟩ (fun j H' _ ⟨s4, _⟩ => SqL.of (s4 _ _ hL)) ?_ ?_
      · rintro j x H4 hx ⟨s4, hD⟩
        obtain ⟨p, hp, rfl⟩ := map_at hx
        have hj : j < s.order.length := by
          rw [← hl]
          exact (List.getElem?_eq_some_iff.mp hp).1
        obtain ⟨i, hi⟩ : ∃ i, s.order[j]? = some i := ⟨_, List.getElem?_eq_getElem hj⟩
        have hpi := s4 _ _ (hps j i p hi hp)
        refine ⟨p, _, rfl, SqT.of hpi, rfl, _, _, rfl, _, _, rfl, rfl, ?_⟩
        refine ⟨rfl, _, rfl, _, hD, ?_, fun b o e => ?_, ?_⟩
        · rw [List.length_map, List.length_take, sizeLine_eq]
          have := order_len wf
          omega
        · rw [upd_ne (ne_of_none e nD)]
          exact s4 _ _ e
        · rw [upd_same, take_more hi, List.map_append]
          rfl
      · rintro H4 ⟨s4, hD⟩
        rw [List.length_map, hl, List.take_length] at hD
        refine ⟨_, rfl, sz, rfl, D, _, rfl, SqL.of hD, fun c nc => ?_⟩
        have ez : sz = ((sz.toNat : Nat) : Int) := by omega
        have ecut : cutV (s.order.map nI) none (some sz) = (s.order.take sz.toNat).map nI := by
          rw [ez, cutV_to, List.map_take]
          rfl
        rw [ecut]
        have s5 : Same H4 (upd H4 c (.lst ((s.order.take sz.toNat).map nI))) := Same.new nc
        refine ⟨_, rfl, (by show 0 ≤ sizeLine; decide), fun p np => ?_⟩
        have s6 := s5.trans (Same.new (o := .lst []) np)
        refine ⟨_, .list [], .lst (SqL.of (Same.new np _ _ upd_same)) (dp_nats _), .lst (SqL.of upd_same) .nil, ints_shaped _, by decide, _, rfl, _, _, rfl, fun hne => ?_, fun hne => ?_⟩
        · rw [eqv_nil, List.isEmpty_map] at hne
          have hne : s.order.take sz.toNat ≠ [] := by
            intro z
            rw [z] at hne
            cases hne
          have es2 : Kg83.spec s (.round_ kd lm ct sz) = (freshS s kd.toNat lm.toNat ct.toNat (s.order.take sz.toNat) (s.round + 1), ⟨(s.round + 1 : Nat), Kg83.whole (s.order.take sz.toNat)⟩) := by
            rw [es1]
            show (if (if s.round = 0 then List.range s.number else s.order.take sz.toNat) = [] then (s, Kg83.num (-4)) else (freshS s kd.toNat lm.toNat ct.toNat (if s.round = 0 then List.range s.number else s.order.take sz.toNat) (s.round + 1), ⟨(s.round + 1 : Nat), Kg83.whole (if s.round = 0 then List.range s.number else s.order.take sz.toNat)⟩)) = _
            rw [if_neg h0, if_neg hne]
          have eA := (((ExtN.same s1).trans (ExtN.same s2)).trans e3).trans (ExtN.same s4)
          exact hq _ _ _ _ c (s.order.take sz.toNat) (eA.trans (ExtN.same s6)) ((t3.ext s4).ext s6) (Same.new np _ _ upd_same) ((order_nodup wf).sublist (List.take_sublist _ _)) (Nat.le_trans (List.length_take_le' _ _) (order_len wf)) (fun i hi => wf.lt i (order_mem wf (List.mem_of_mem_take hi))) k0 k3 (by omega) l3 c0 es2 fun b o e n => ne_of_none (eA b o e n) nc
        · rw [eqv_nil, List.isEmpty_map] at hne
          have hne : s.order.take sz.toNat = [] := by
            cases z : s.order.take sz.toNat with
            | nil => rfl
            | cons y l =>
              rw [z] at hne
              cases hne
          refine k.ref hM ?_ ((((ExtN.same s1).trans (ExtN.same s2)).trans e3).trans (ExtN.same (s4.trans s6))) ((t3.ext s4).ext s6)
          rw [es1]
          show (if (if s.round = 0 then List.range s.number else s.order.take sz.toNat) = [] then (s, Kg83.num (-4)) else _) = _
          rw [if_neg h0, if_pos hne]
    · rw [if_pos ⟨h0, ho⟩] at es1
      exact k.ref0 hM es1 (s1.trans s2)
  · have h5 : s.number = 0 := by
      have := of_decide_eq_false h5
      omega
    rw [if_pos h5] at es1
    exact k.ref0 hM es1 sH
end
end Cm
namespace Cm
open PySem PySem.Spec PyProof.Rows L2 LamX
/-! the calls -/
inductive CallIs : Int → List Int → List (List Int) → Kg83.Call → Prop
  | begin_ (n : Int) : CallIs 1 [n] [] (.begin_ n)
  | round_ (k l c m : Int) : CallIs 2 [k, l, c, m] [] (.round_ k l c m)
  | scramble (l : List Int) : CallIs 3 [] [l] (.scramble l)
  | time (i t p : Int) : CallIs 4 [i, t, p] [] (.time i t p)
  | none_ (i : Int) : CallIs 5 [i] [] (.none_ i)
  | solution (i : Int) (l : List Int) : CallIs 6 [i] [l] (.solution i l)
  | card (i : Int) : CallIs 7 [i] [] (.card i)
  | order : CallIs 8 [] [] .order
  | cube (l : List Int) : CallIs 9 [] [l] (.cube l)
  | solves (a b : List Int) : CallIs 10 [] [a, b] (.solves a b)
theorem CallIs.of {p : Int} {a : List Int} {xs : List (List Int)} (h : PyKg83.shape p = some (a.length, xs.length)) : ∃ k, CallIs p a xs k ∧ Kg83Neutral.callOf (PyKg83.whole ((p :: a) :: xs)) = some k := by
  unfold PyKg83.shape at h
  by_cases h1 : p = 1
  · subst h1
    rw [if_pos rfl] at h
    match a, xs, h with
    | [n], [], _ => exact ⟨_, .begin_ n, rfl⟩
  rw [if_neg h1] at h
  by_cases h1 : p = 2
  · subst h1
    rw [if_pos rfl] at h
    match a, xs, h with
    | [k, l, c, m], [], _ => exact ⟨_, .round_ k l c m, rfl⟩
  rw [if_neg h1] at h
  by_cases h1 : p = 3
  · subst h1
    rw [if_pos rfl] at h
    match a, xs, h with
    | [], [l], _ => exact ⟨_, .scramble l, rfl⟩
  rw [if_neg h1] at h
  by_cases h1 : p = 4
  · subst h1
    rw [if_pos rfl] at h
    match a, xs, h with
    | [i, t, p], [], _ => exact ⟨_, .time i t p, rfl⟩
  rw [if_neg h1] at h
  by_cases h1 : p = 5
  · subst h1
    rw [if_pos rfl] at h
    match a, xs, h with
    | [i], [], _ => exact ⟨_, .none_ i, rfl⟩
  rw [if_neg h1] at h
  by_cases h1 : p = 6
  · subst h1
    rw [if_pos rfl] at h
    match a, xs, h with
    | [i], [l], _ => exact ⟨_, .solution i l, rfl⟩
  rw [if_neg h1] at h
  by_cases h1 : p = 7
  · subst h1
    rw [if_pos rfl] at h
    match a, xs, h with
    | [i], [], _ => exact ⟨_, .card i, rfl⟩
  rw [if_neg h1] at h
  by_cases h1 : p = 8
  · subst h1
    rw [if_pos rfl] at h
    match a, xs, h with
    | [], [], _ => exact ⟨_, .order, rfl⟩
  rw [if_neg h1] at h
  by_cases h1 : p = 9
  · subst h1
    rw [if_pos rfl] at h
    match a, xs, h with
    | [], [l], _ => exact ⟨_, .cube l, rfl⟩
  rw [if_neg h1] at h
  by_cases h1 : p = 10
  · subst h1
    rw [if_pos rfl] at h
    match a, xs, h with
    | [], [x, y], _ => exact ⟨_, .solves x y, rfl⟩
  rw [if_neg h1] at h
  cases h
/-- a call's lists in the heap -/
structure Rows (H : Hp) (nA lA : Addr) (ps : List Addr) (a : List Int) (xs : List (List Int)) : Prop where
  na : H nA = some (.lst (a.map V.int))
  la : H lA = some (.lst (ps.map V.ref))
  len : ps.length = xs.length
  at_ : ∀ (k : Nat) x p, xs[k]? = some x → ps[k]? = some p → H p = some (.lst (x.map V.int))
theorem Rows.same {H H' : Hp} {nA lA : Addr} {ps : List Addr} {a : List Int} {xs : List (List Int)} (h : Rows H nA lA ps a xs) (e : Same H H') : Rows H' nA lA ps a xs := ⟨e _ _ h.na, e _ _ h.la, h.len, fun k x p h1 h2 => e _ _ (h.at_ k x p h1 h2)⟩
theorem vne {a b : Int} (h : a ≠ b) : ¬ (V.int a = V.int b) := fun z => h (by injection z)
def spOf (A : Ads) (lo hi : Int) : Sp := fun vs H Q E => ∃ (M : Addr) (m : MA) (s : Kg83.State) (p : Int) (nA lA : Addr) (ps : List Addr) (a : List Int) (xs : List (List Int)) (c : Kg83.Call), vs = [.ref M, .int p, .ref nA, .ref lA] ∧ MeetAt A H M m s ∧ Rows H nA lA ps a xs ∧ CallIs p a xs c ∧ lo ≤ p ∧ p ≤ hi ∧
  (∀ x ∈ xs, x.length ≤ 100) ∧ (∀ b ∈ ps, b ∉ foot M m s) ∧ Ends A H M m s c Q E
section
variable {P : Program} {w : World} {K : PySem.W.Frag} {mg : Str → Option Value} {base : Heap} {A : Ads}
theorem Rows.one {H : Hp} {nA lA : Addr} {ps : List Addr} {a l : List Int} (h : Rows H nA lA ps a [l]) : ∃ p, ps = [p] ∧ H p = some (.lst (l.map V.int)) := by
  match ps, h.len with
  | [p], _ => exact ⟨p, rfl, h.at_ 0 l p rfl rfl⟩
theorem Rows.two {H : Hp} {nA lA : Addr} {ps : List Addr} {a l r : List Int} (h : Rows H nA lA ps a [l, r]) : ∃ p q, ps = [p, q] ∧ H p = some (.lst (l.map V.int)) ∧ H q = some (.lst (r.map V.int)) := by
  match ps, h.len with
  | [p, q], _ => exact ⟨p, q, rfl, h.at_ 0 l p rfl rfl, h.at_ 1 r q rfl rfl⟩
/-! of_rounds -/
theorem sc_of_rounds : FnScope ["meet", "kind", "numbers", "lists"] ["meet", "kind", "numbers", "lists"] (defScope s_of_rounds) := ⟨rfl, rfl, rfl, by decide +kernel, rfl, by decide +kernel, by decide +kernel⟩
theorem ok_of_rounds (T : Txt K mg A) (TB : TabB base mg A.cOrder A.pOrder) : Has P w K mg base (L2.CX P w) 16 A.of_rounds ["meet", "kind", "numbers", "lists"] (spOf A 1 6) := by
  refine T.f_of_rounds.okX sc_of_rounds (fun vs H Q E h => ?_) (fun cdv Ar outer s0 H vs Q E hr h => ?_)
  · obtain ⟨_, _, _, _, _, _, _, _, _, _, rfl, _⟩ := h
    rfl
  obtain ⟨M, m, s, p, nA, lA, ps, a, xs, c, rfl, hM, hW, hc, hlo, hhi, hx, hf, k⟩ := h
  have G_begin := ok_begin (P := P) (w := w) (base := base) T
  have G_begin_round := ok_begin_round (P := P) (w := w) (base := base) T TB
  have G_scramble := ok_scramble (P := P) (w := w) (base := base) T
  have G_time := ok_time (P := P) (w := w) (base := base) T
  have G_no_time := ok_no_time (P := P) (w := w) (base := base) T
  have G_solution := ok_solution (P := P) (w := w) (base := base) T
  have px := passes_call (X := cxOf (L2.CX P w) P w K mg base ["meet", "kind", "numbers", "lists"] "of_rounds" (defScope s_of_rounds) A.of_rounds cdv Ar outer s0 H E) (takes_of rfl rfl rfl rfl) (fun _ _ _ _ h => h)
  refine ⟨_, (pss_cons (ps_if (pt_cmpR op_eq (pv 1) pe_int (nomark _)) (pss_one (ps_ret (pe_c G_begin (hr.mono (by decide)) rfl T.g_begin px (pa_cons (pv 0) (pa_cons (pe_ix ix_list (pv 2) pe_int (fun _ _ => rfl)) pa_nil))))) pss_nil)
    (pss_cons (ps_if (pt_cmpR op_eq (pv 1) pe_int (nomark _)) (pss_one (ps_ret (pe_c G_begin_round (hr.mono (by decide)) rfl T.g_begin_round px (pa_cons (pv 0) (pa_cons (pe_ix ix_list (pv 2) pe_int (fun _ _ => rfl)) (pa_cons (pe_ix ix_list (pv 2) pe_int (fun _ _ => rfl)) (pa_cons (pe_ix ix_list (pv 2) pe_int (fun _ _ => rfl)) (pa_cons (pe_ix ix_list (pv 2) pe_int (fun _ _ => rfl)) pa_nil)))))))) pss_nil)
    (pss_cons (ps_if (pt_cmpR op_eq (pv 1) pe_int (nomark _)) (pss_one (ps_ret (pe_c G_scramble (hr.mono (by decide)) rfl T.g_scramble px (pa_cons (pv 0) (pa_cons (pe_ix ix_list (pv 3) pe_int (fun _ _ => rfl)) pa_nil))))) pss_nil)
    (pss_cons (ps_if (pt_cmpR op_eq (pv 1) pe_int (nomark _)) (pss_one (ps_ret (pe_c G_time (hr.mono (by decide)) rfl T.g_time px (pa_cons (pv 0) (pa_cons (pe_ix ix_list (pv 2) pe_int (fun _ _ => rfl)) (pa_cons (pe_ix ix_list (pv 2) pe_int (fun _ _ => rfl)) (pa_cons (pe_ix ix_list (pv 2) pe_int (fun _ _ => rfl)) pa_nil))))))) pss_nil)
    (pss_cons (ps_if (pt_cmpR op_eq (pv 1) pe_int (nomark _)) (pss_one (ps_ret (pe_c G_no_time (hr.mono (by decide)) rfl T.g_no_time px (pa_cons (pv 0) (pa_cons (pe_ix ix_list (pv 2) pe_int (fun _ _ => rfl)) pa_nil))))) pss_nil)
    (pss_one (ps_ret (pe_c G_solution (hr.mono (by decide)) rfl T.g_solution px (pa_cons (pv 0) (pa_cons (pe_ix ix_list (pv 2) pe_int (fun _ _ => rfl)) (pa_cons (pe_ix ix_list (pv 3) pe_int (fun _ _ => rfl)) pa_nil))))))))))), ?_⟩
  refine ⟨_, rfl, rfl, _, rfl, ?_⟩
  cases hc with
  | begin_ n => exact dT rfl ⟨_, rfl, _, rfl, nA, _, _, _, rfl, rfl, SqL.of hW.na, rfl, M, m, s, n, rfl, hM, k⟩
  | round_ kd l c z =>
    refine dF (vne (by decide)) ⟨_, rfl, rfl, _, rfl, ?_⟩
    exact dT rfl ⟨_, rfl, _, rfl, nA, _, _, _, rfl, rfl, SqL.of hW.na, rfl, _, rfl, nA, _, _, _, rfl, rfl, SqL.of hW.na, rfl, _, rfl, nA, _, _, _, rfl, rfl, SqL.of hW.na, rfl, _, rfl, nA, _, _, _, rfl, rfl, SqL.of hW.na, rfl, M, m, s, kd, l, c, z, rfl, hM, k⟩
  | scramble l =>
    obtain ⟨q, rfl, hq⟩ := hW.one
    refine dF (vne (by decide)) ⟨_, rfl, rfl, _, rfl, dF (vne (by decide)) ⟨_, rfl, rfl, _, rfl, ?_⟩⟩
    exact dT rfl ⟨_, rfl, _, rfl, lA, _, _, _, rfl, rfl, SqL.of hW.la, rfl, M, m, s, q, l, rfl, hM, hq, hf q (by simp), Nat.le_trans (hx l (by simp)) (by decide), k⟩
  | time i t p =>
    refine dF (vne (by decide)) ⟨_, rfl, rfl, _, rfl, dF (vne (by decide)) ⟨_, rfl, rfl, _, rfl, dF (vne (by decide)) ⟨_, rfl, rfl, _, rfl, ?_⟩⟩⟩
    exact dT rfl ⟨_, rfl, _, rfl, nA, _, _, _, rfl, rfl, SqL.of hW.na, rfl, _, rfl, nA, _, _, _, rfl, rfl, SqL.of hW.na, rfl, _, rfl, nA, _, _, _, rfl, rfl, SqL.of hW.na, rfl, M, m, s, i, t, p, rfl, hM, k⟩
  | none_ i =>
    refine dF (vne (by decide)) ⟨_, rfl, rfl, _, rfl, dF (vne (by decide)) ⟨_, rfl, rfl, _, rfl, dF (vne (by decide)) ⟨_, rfl, rfl, _, rfl, dF (vne (by decide)) ⟨_, rfl, rfl, _, rfl, ?_⟩⟩⟩⟩
    exact dT rfl ⟨_, rfl, _, rfl, nA, _, _, _, rfl, rfl, SqL.of hW.na, rfl, M, m, s, i, rfl, hM, k⟩
  | solution i l =>
    obtain ⟨q, rfl, hq⟩ := hW.one
    refine dF (vne (by decide)) ⟨_, rfl, rfl, _, rfl, dF (vne (by decide)) ⟨_, rfl, rfl, _, rfl, dF (vne (by decide)) ⟨_, rfl, rfl, _, rfl, dF (vne (by decide)) ⟨_, rfl, rfl, _, rfl, dF (vne (by decide)) ?_⟩⟩⟩⟩
    exact ⟨_, rfl, _, rfl, nA, _, _, _, rfl, rfl, SqL.of hW.na, rfl, _, rfl, lA, _, _, _, rfl, rfl, SqL.of hW.la, rfl, M, m, s, i, q, l, rfl, hM, hq, Nat.le_trans (hx l (by simp)) (by decide), k⟩
  | card i => exact absurd hhi (by decide)
  | order => exact absurd hhi (by decide)
  | cube l => exact absurd hhi (by decide)
  | solves x y => exact absurd hhi (by decide)
/-! of_cards -/
theorem sc_of_cards : FnScope ["meet", "kind", "numbers", "lists"] ["meet", "kind", "numbers", "lists"] (defScope s_of_cards) := ⟨rfl, rfl, rfl, by decide +kernel, rfl, by decide +kernel, by decide +kernel⟩
theorem ok_of_cards (T : Txt K mg A) (TB : TabB base mg A.cOrder A.pOrder) : Has P w K mg base (L2.CX P w) 16 A.of_cards ["meet", "kind", "numbers", "lists"] (spOf A 7 10) := by
  refine T.f_of_cards.okX sc_of_cards (fun vs H Q E h => ?_) (fun cdv Ar outer s0 H vs Q E hr h => ?_)
  · obtain ⟨_, _, _, _, _, _, _, _, _, _, rfl, _⟩ := h
    rfl
  obtain ⟨M, m, s, p, nA, lA, ps, a, xs, c, rfl, hM, hW, hc, hlo, hhi, hx, hf, k⟩ := h
  have G_card := ok_card (P := P) (w := w) (base := base) T
  have G_order := ok_ord (P := P) (w := w) (base := base) T TB
  have G_cube := ok_cube (P := P) (w := w) (base := base) T
  have G_solves := ok_solves (P := P) (w := w) (base := base) T
  have px := passes_call (X := cxOf (L2.CX P w) P w K mg base ["meet", "kind", "numbers", "lists"] "of_cards" (defScope s_of_cards) A.of_cards cdv Ar outer s0 H E) (takes_of rfl rfl rfl rfl) (fun _ _ _ _ h => h)
  refine ⟨_, (pss_cons (ps_if (pt_cmpR op_eq (pv 1) pe_int (nomark _)) (pss_one (ps_ret (pe_c G_card (hr.mono (by decide)) rfl T.g_card px (pa_cons (pv 0) (pa_cons (pe_ix ix_list (pv 2) pe_int (fun _ _ => rfl)) pa_nil))))) pss_nil)
    (pss_cons (ps_if (pt_cmpR op_eq (pv 1) pe_int (nomark _)) (pss_one (ps_ret (pe_c G_order (hr.mono (by decide)) rfl T.g_order pass0 (pa_cons (pv 0) pa_nil)))) pss_nil)
    (pss_cons (ps_if (pt_cmpR op_eq (pv 1) pe_int (nomark _)) (pss_one (ps_ret (pe_c G_cube (hr.mono (by decide)) rfl T.g_cube px (pa_cons (pv 0) (pa_cons (pe_ix ix_list (pv 3) pe_int (fun _ _ => rfl)) pa_nil))))) pss_nil)
    (pss_one (ps_ret (pe_c G_solves (hr.mono (by decide)) rfl T.g_solves px (pa_cons (pv 0) (pa_cons (pe_ix ix_list (pv 3) pe_int (fun _ _ => rfl)) (pa_cons (pe_ix ix_list (pv 3) pe_int (fun _ _ => rfl)) pa_nil))))))))), ?_⟩
  refine ⟨_, rfl, rfl, _, rfl, ?_⟩
  cases hc with
  | card i => exact dT rfl ⟨_, rfl, _, rfl, nA, _, _, _, rfl, rfl, SqL.of hW.na, rfl, M, m, s, i, rfl, hM, k⟩
  | order => exact dF (vne (by decide)) ⟨_, rfl, rfl, _, rfl, dT rfl ⟨_, rfl, M, m, s, rfl, hM, k.ret⟩⟩
  | cube l =>
    obtain ⟨q, rfl, hq⟩ := hW.one
    refine dF (vne (by decide)) ⟨_, rfl, rfl, _, rfl, dF (vne (by decide)) ⟨_, rfl, rfl, _, rfl, ?_⟩⟩
    exact dT rfl ⟨_, rfl, _, rfl, lA, _, _, _, rfl, rfl, SqL.of hW.la, rfl, M, m, s, q, l, rfl, hM, hq, Nat.le_trans (hx l (by simp)) (by decide), k⟩
  | solves x y =>
    obtain ⟨q, r, rfl, hq, hr2⟩ := hW.two
    refine dF (vne (by decide)) ⟨_, rfl, rfl, _, rfl, dF (vne (by decide)) ⟨_, rfl, rfl, _, rfl, dF (vne (by decide)) ?_⟩⟩
    exact ⟨_, rfl, _, rfl, lA, _, _, _, rfl, rfl, SqL.of hW.la, rfl, _, rfl, lA, _, _, _, rfl, rfl, SqL.of hW.la, rfl, M, m, s, q, r, x, y, rfl, hM, hq, Nat.le_trans (hx x (by simp)) (by decide), hr2, Nat.le_trans (hx y (by simp)) (by decide), k⟩
  | begin_ n => exact absurd hlo (by decide)
  | round_ kd l c z => exact absurd hlo (by decide)
  | scramble l => exact absurd hlo (by decide)
  | time i t p => exact absurd hlo (by decide)
  | none_ i => exact absurd hlo (by decide)
  | solution i l => exact absurd hlo (by decide)
end
end Cm
namespace Cm
open PySem PySem.Spec PyProof.Rows L2 LamX
theorem putRows_append : ∀ a b : List (List Int), PyFlat.putRows (a ++ b) = PyFlat.putRows a ++ PyFlat.putRows b
  | [], _ => rfl
  | x :: a, b => by
    show PyFlat.putRow x ++ PyFlat.putRows (a ++ b) = (PyFlat.putRow x ++ PyFlat.putRows a) ++ PyFlat.putRows b
    rw [putRows_append a b, List.append_assoc]
theorem sqL_keep {K : PySem.W.Frag} {H H' : Hp} {a : Addr} {xs : List V} (h : SqL K H a xs) (e : ∀ o, H a = some o → (∀ ps, o ≠ .tbl ps) → H' a = some o) : SqL K H' a xs := by
  rcases h with (h | ⟨o, h⟩) | h
  · exact .inl (.inl (e _ h fun _ z => by cases z))
  · exact .inl (.inr ⟨o, e _ h fun _ z => by cases z⟩)
  · exact .inr h
section
variable {P : Program} {w : World} {K : PySem.W.Frag} {mg : Str → Option Value} {base : Heap} {A : Ads}
/-! lists_at -/
def spLists (K : PySem.W.Frag) : Sp := fun vs H Q E => ∃ (c : Addr) (ns : List Int) (at_ : Nat) (xs : List (List Int)) (t : List Int), vs = [.ref c, nI at_, nI xs.length] ∧ SqL K H c (ns.map V.int) ∧ ns.drop at_ = PyFlat.putRows xs ++ t ∧ xs.length ≤ 2 ∧
  ∀ (H' : Hp) (T fL : Addr) (ps : List Addr), Same H H' → H' T = some (.tup [.ref fL, nI (at_ + (PyFlat.putRows xs).length)]) → H' fL = some (.lst (ps.map V.ref)) → ps.length = xs.length → (∀ (k : Nat) x p, xs[k]? = some x → ps[k]? = some p → H' p = some (.lst (x.map V.int))) → (∀ p ∈ ps, H p = none) → Q (.ref T) H'
theorem sc_lists_at : FnScope ["calls", "at", "many", "found", "k"] ["calls", "at", "many"] (defScope s_lists_at) := ⟨rfl, rfl, rfl, by decide +kernel, rfl, by decide +kernel, by decide +kernel⟩
theorem ok_lists_at (T : Txt K mg A) : Has P w K mg base CX0 1 A.lists_at ["calls", "at", "many"] (spLists K) := by
  refine T.f_lists_at.ok sc_lists_at (fun vs H Q E h => ?_) (fun cdv Ar outer s0 H vs Q E hr h => ?_)
  · obtain ⟨_, _, _, _, _, rfl, _⟩ := h
    rfl
  obtain ⟨c, ns, at0, xs, t, rfl, hc, hd, h2, k⟩ := h
  refine ⟨_, (pss_cons (ps_set (i := 3) sc_lists_at.nd rfl (Or.inl rfl) (pe_lst pa_nil))
    (pss_cons (ps_for PassesOwn.never rfl (pi_range1 rfl T.b_range (pa_cons (pv 2) pa_nil)) (pg_name (i := 4) sc_lists_at.nd rfl (Or.inl rfl)) (pss_cons (ps_expr (pe_bm PySem.F.plainAttrs_list PySem.F.slot_list_append PySem.F.type_list_append mt_append (pv 3) (pa_cons (pe_slice sl_list (pv 0) (po_some (pe_op op_add (pv 1) pe_int)) (po_some (pe_op op_add (pe_op op_add (pv 1) pe_int) (pe_ix ix_list (pv 0) (pv 1) (fun _ _ => rfl))))) pa_nil)))
    (pss_one (ps_aug (i := 1) sc_lists_at.nd rfl (Or.inl rfl) (pe_op op_add pe_int (pe_ix ix_list (pv 0) (pv 1) (fun _ _ => rfl))) ip_add))))
    (pss_one (ps_ret (pe_tup (pa_cons (pv 3) (pa_cons (pv 1) pa_nil))))))), ?_⟩
  refine ⟨(by show 0 ≤ sizeLine; decide), fun fL nfL => ?_⟩
  refine ⟨_, rfl, xs.length, rfl, (by omega), (by omega), for_rng0 (n := xs.length) (fun j σ H' => ∃ (kv : Option V) (ps : List Addr), σ = [some (.ref c), some (nI (at0 + (PyFlat.putRows (xs.take j)).length)), some (nI xs.length), some (.ref fL), kv] ∧ Same H H' ∧ H' fL = some (.lst (ps.map V.ref)) ∧ ps.length = j ∧
    (∀ (k : Nat) x p, xs[k]? = some x → ps[k]? = some p → H' p = some (.lst (x.map V.int))) ∧ ∀ p ∈ ps, H p = none ∧ p ≠ fL) ⟨_, [], rfl, Same.new nfL, upd_same, rfl, (fun k x p _ z => by simp at z), fun p hp => by simp at hp⟩ ?_ ?_⟩
  · rintro j σ H1 hj ⟨kv, ps, rfl, s1, hfL, hl, hps, hfr⟩
    obtain ⟨x, hx⟩ : ∃ x, xs[j]? = some x := ⟨_, List.getElem?_eq_getElem hj⟩
    have e1 : xs = xs.take j ++ (x :: xs.drop (j + 1)) := by
      obtain ⟨hl', e'⟩ := List.getElem?_eq_some_iff.mp hx
      conv => lhs; rw [← List.take_append_drop j xs, List.drop_eq_getElem_cons hl', e']
    have ed : ns.drop (at0 + (PyFlat.putRows (xs.take j)).length) = (x.length : Int) :: (x ++ (PyFlat.putRows (xs.drop (j + 1)) ++ t)) := by
      rw [← List.drop_drop, hd]
      have e2 : PyFlat.putRows xs = PyFlat.putRows (xs.take j) ++ (PyFlat.putRow x ++ PyFlat.putRows (xs.drop (j + 1))) := (congrArg PyFlat.putRows e1).trans (putRows_append _ _)
      rw [e2, List.append_assoc, PyFlat.drop_len, List.append_assoc]
      rfl
    have en : ns[at0 + (PyFlat.putRows (xs.take j)).length]? = some (x.length : Int) := by
      have q := congrArg (fun l => l[0]?) ed
      simpa [List.getElem?_drop] using q
    have hc1 := Same.seq s1 hc
    have ati : atI (ns.map V.int) ((at0 + (PyFlat.putRows (xs.take j)).length : Nat) : Int) = some (.int (x.length : Int)) := atI_nat (by rw [List.getElem?_map, en]; rfl)
    refine ⟨_, rfl, .inl ⟨rfl, _, SqL.of hfL⟩, _, rfl, _, rfl, _, _, rfl, rfl, _, rfl, _, rfl, _, _, rfl, rfl, _, rfl, _, rfl, c, _, _, _, rfl, rfl, hc1, ati, _, _, rfl, rfl, _, rfl, c, _, rfl, hc1, fun p np => ?_⟩
    have ecut : cutV (ns.map V.int) (some (((at0 + (PyFlat.putRows (xs.take j)).length : Nat) : Int) + 1)) (some (((at0 + (PyFlat.putRows (xs.take j)).length : Nat) : Int) + 1 + (x.length : Int))) = x.map V.int := by
      have q := cutV_nat (ns.map V.int) (at0 + (PyFlat.putRows (xs.take j)).length + 1) (at0 + (PyFlat.putRows (xs.take j)).length + 1 + x.length)
      have e3 : ns.drop (at0 + (PyFlat.putRows (xs.take j)).length + 1) = x ++ (PyFlat.putRows (xs.drop (j + 1)) ++ t) := by
        rw [← List.drop_drop, ed]
        rfl
      rw [← List.map_drop, e3, ← List.map_take, Nat.add_sub_cancel_left, PyFlat.take_len] at q
      exact q
    rw [ecut]
    have pf : p ≠ fL := (ne_of_none hfL np).symm
    have sp := Same.new (o := .lst (x.map V.int)) np
    refine ⟨fL, _, .ref p, rfl, rfl, sp _ _ hfL, ?_, ?_⟩
    · rw [List.length_map, hl, sizeLine_eq]
      omega
    have s2 : ∀ b o, H1 b = some o → b ≠ fL → upd (upd H1 p (.lst (x.map V.int))) fL (.lst (ps.map V.ref ++ [.ref p])) b = some o := fun b o e hb => (upd_ne hb).trans (sp _ _ e)
    have hc2 : SqL K (upd (upd H1 p (.lst (x.map V.int))) fL (.lst (ps.map V.ref ++ [.ref p]))) c (ns.map V.int) := sqL_keep hc fun o e _ => s2 _ _ (s1 _ _ e) (ne_of_none e nfL)
    refine ⟨_, rfl, _, rfl, _, rfl, c, _, _, _, rfl, rfl, hc2, ati, _, _, rfl, rfl, ?_⟩
    have e5 : (PyFlat.putRows (xs.take (j + 1))).length = (PyFlat.putRows (xs.take j)).length + (1 + x.length) := by
      rw [take_more hx, putRows_append, List.length_append]
      show _ + ((PyFlat.putRow x) ++ []).length = _
      rw [List.append_nil]
      show _ + (x.length + 1) = _
      omega
    have e6 : V.int (((at0 + (PyFlat.putRows (xs.take j)).length : Nat) : Int) + (1 + (x.length : Int))) = nI (at0 + (PyFlat.putRows (xs.take (j + 1))).length) := by
      rw [e5]
      show V.int _ = V.int _
      congr 1
      omega
    have hp2 : upd (upd H1 p (.lst (x.map V.int))) fL (.lst (ps.map V.ref ++ [.ref p])) p = some (.lst (x.map V.int)) := by
      rw [upd_ne pf, upd_same]
    refine ⟨_, _, rfl, rfl, _, ps ++ [p], (by show [_, some (V.int _), _, _, _] = _; rw [e6]), fun b o e => s2 _ _ (s1 _ _ e) (ne_of_none e nfL), ?_, ?_, fun n y q h1 h2 => ?_, fun q hq => ?_⟩
    · rw [upd_same, List.map_append]
      rfl
    · rw [List.length_append, hl]
      rfl
    · by_cases hn : n < ps.length
      · rw [List.getElem?_append_left hn] at h2
        have hq := hfr q (List.mem_of_getElem? h2)
        exact s2 _ _ (hps n y q h1 h2) hq.2
      · have e1 : n = ps.length := by
          have := (List.getElem?_eq_some_iff.mp h2).1
          rw [List.length_append] at this
          have e2 : [p].length = 1 := rfl
          omega
        rw [e1, List.getElem?_append_right (Nat.le_refl _), Nat.sub_self] at h2
        cases h2
        rw [e1, hl, hx] at h1
        cases h1
        exact hp2
    · rcases List.mem_append.mp hq with z | z
      · exact hfr q z
      · rw [List.mem_singleton.mp z]
        refine ⟨?_, pf⟩
        cases e : H p with
        | none => rfl
        | some o =>
          rw [s1 _ _ e] at np
          cases np
  · rintro σ H1 ⟨kv, ps, rfl, s1, hfL, hl, hps, hfr⟩
    rw [List.take_length]
    refine ⟨_, rfl, _, rfl, (by show 2 ≤ sizeLine; decide), fun tp ntp => ?_⟩
    exact k _ tp fL ps (s1.trans (Same.new ntp)) upd_same (Same.new ntp _ _ hfL) hl (fun k x p h1 h2 => Same.new ntp _ _ (hps k x p h1 h2)) (fun p hp => (hfr p hp).1)
end
end Cm
namespace Cm
open PySem PySem.Spec PyProof.Rows L2 LamX
section
variable {P : Program} {w : World} {K : PySem.W.Frag} {mg : Str → Option Value} {base : Heap} {A : Ads}
/-! answered -/
def spAns (A : Ads) : Sp := fun vs H Q E => ∃ (M : Addr) (m : MA) (s : Kg83.State) (p : Int) (nA lA : Addr) (ps : List Addr) (a : List Int) (xs : List (List Int)) (c : Kg83.Call), vs = [.ref M, .int p, .ref nA, .ref lA] ∧ MeetAt A H M m s ∧ Rows H nA lA ps a xs ∧ CallIs p a xs c ∧
  (∀ x ∈ xs, x.length ≤ 100) ∧ (∀ b ∈ ps, b ∉ foot M m s) ∧ ∀ H' m' L, MStep A H M m s H' m' (Kg83.spec s c).1 → H' L = some (.lst (((Kg83.spec s c).2.value :: (Kg83.spec s c).2.out).map V.int)) → NewL H M m s L → Q (.ref L) H'
theorem sc_answered : FnScope ["meet", "kind", "numbers", "lists", "refused"] ["meet", "kind", "numbers", "lists"] (defScope s_answered) := ⟨rfl, rfl, rfl, by decide +kernel, rfl, by decide +kernel, by decide +kernel⟩
def tBody (A : Ads) (W : WX) : TS := tSeq (tIfS (tTest (tOp (rI0 fun i j => .bl (decide (i < j))) (tVar 1) (tC (.int 7)))) (tRet (tCallS (spOf A 1 6) (WE W) (tCons (tVar 0) (tCons (tVar 1) (tCons (tVar 2) (tCons (tVar 3) tNil)))))) tNext)
  (tRet (tCallS (spOf A 7 10) (WE W) (tCons (tVar 0) (tCons (tVar 1) (tCons (tVar 2) (tCons (tVar 3) tNil))))))
def tSuite (A : Ads) : Addr → Value → Option Addr → TS := fun a cls d => tRet (tLst (tCons (tXf a cls d A.CRefused "answer" (tVar 4)) tNil))
theorem ok_answered (T : Txt K mg A) (TB : TabB base mg A.cOrder A.pOrder) : Has P w K mg base CX0 18 A.answered ["meet", "kind", "numbers", "lists"] (spAns A) := by
  refine T.f_answered.ok sc_answered (fun vs H Q E h => ?_) (fun cdv Ar outer s0 H vs Q E hr h => ?_)
  · obtain ⟨_, _, _, _, _, _, _, _, _, _, rfl, _⟩ := h
    rfl
  obtain ⟨M, m, s, p, nA, lA, ps, a, xs, c, rfl, hM, hW, hc, hx, hf, k⟩ := h
  obtain ⟨fd1, F1, b1, k1⟩ := ok_of_rounds (P := P) (w := w) (base := base) T TB
  obtain ⟨fd2, F2, b2, k2⟩ := ok_of_cards (P := P) (w := w) (base := base) T TB
  have hr1 : Room 16 _ := hr.mono (by decide)
  refine ⟨_, pss_one (ps_try_as (i := 4) (tb := tBody A) (ts := tSuite A) (Wout := fun _ _ _ _ => False) rfl rfl sc_answered.nd rfl rfl ⟨rfl, by decide, Or.inl T.g_Refused⟩ L2.takes0
      (fun W pn xe tk _ => pss_cons (ps_if (pt_cmpR op_lt (pv 1) pe_int (nomark _)) (pss_one (ps_ret (by exact (pe_callS F1 hr1 rfl T.g_of_rounds k1 b1 (fun σ => passAt tk σ) (by exact (pa_cons (pv 0) (pa_cons (pv 1) (pa_cons (pv 2) (pa_cons (pv 3) pa_nil))))))))) pss_nil)
        (pss_one (ps_ret (by exact (pe_callS F2 hr1 rfl T.g_of_cards k2 b2 (fun σ => passAt tk σ) (by exact (pa_cons (pv 0) (pa_cons (pv 1) (pa_cons (pv 2) (pa_cons (pv 3) pa_nil))))))))))
      (fun a oe cls d pn hz hf => pss_one (ps_ret (pe_lst (pa_cons (by exact (pe_xf T.x_Refused T.n_Refused hz hf (pv 4))) pa_nil))))), ?_⟩
  have ends : ∀ (σ : L2.St), σ.length = 5 → Ends A H M m s c Q (WE (wAs K (.ref A.CRefused) 4 (tSuite A) (fun _ _ _ _ => False) { nx := fun _ H' => Q .non H', rt := Q }) σ) := fun σ hσ => by
    refine ⟨k, fun z d H' hs st hd => ⟨true, T.e_Refused, fun _ b nb => ?_, fun z => by cases z⟩⟩
    refine ⟨.ref b, ?_, rfl, rfl, d, ansF z, .int z, rfl, hd, rfl, (by show 1 ≤ sizeLine; decide), fun L nL => ?_⟩
    · rw [List.getElem?_set_self (by omega)]
    · have sL := Same.new (o := .lst [.int z]) nL
      refine k _ m L ?_ ?_ (fun b o e n hb => ne_of_none (st.keep b o e n hb) nL)
      · rw [hs]
        exact ⟨st.meet.same sL, fun b o e n hb => sL _ _ (st.keep b o e n hb), st.supp, st.foots⟩
      · rw [hs, upd_same]
        rfl
  refine ⟨_, rfl, _, _, rfl, rfl, _, rfl, ?_⟩
  by_cases h7 : p < 7
  · refine dT h7 ⟨_, rfl, _, rfl, _, rfl, _, rfl, M, m, s, p, nA, lA, ps, a, xs, c, rfl, hM, hW, hc, ?_, by omega, hx, hf, ends _ rfl⟩
    cases hc <;> decide
  · refine dF h7 ⟨_, rfl, _, rfl, _, rfl, _, rfl, M, m, s, p, nA, lA, ps, a, xs, c, rfl, hM, hW, hc, by omega, ?_, hx, hf, ends _ rfl⟩
    cases hc <;> decide
end
end Cm
namespace Cm
open PySem PySem.Spec PyProof.Rows L2 LamX
abbrev Raw := List (List (List Int))
/-- the meet behind calls -/
def after (s : Kg83.State) (l : Raw) : Kg83.State := l.foldl (fun s c => (Kg83Neutral.step s (PyKg83.whole c)).1) s
/-- what is told of calls -/
def toldD (s : Kg83.State) (l : Raw) : List Int := PyFlat.told (PyFlat.played Kg83Neutral.step s (l.map PyKg83.whole))
theorem told_cons (s : Kg83.State) (c : List (List Int)) (l : Raw) : toldD s (c :: l) = ((Kg83Neutral.step s (PyKg83.whole c)).2.length : Int) :: ((Kg83Neutral.step s (PyKg83.whole c)).2 ++ toldD (Kg83Neutral.step s (PyKg83.whole c)).1 l) := rfl
theorem told_app : ∀ (a b : Raw) (s : Kg83.State), toldD s (a ++ b) = toldD s a ++ toldD (after s a) b
  | [], _, _ => rfl
  | c :: a, b, s => by
    rw [List.cons_append, told_cons, told_cons, told_app a b]
    simp [after]
theorem after_snoc (s : Kg83.State) (a : Raw) (c : List (List Int)) : after s (a ++ [c]) = (Kg83Neutral.step (after s a) (PyKg83.whole c)).1 := by
  unfold after
  rw [List.foldl_append]
  rfl
theorem told_snoc (s : Kg83.State) (a : Raw) (c : List (List Int)) : toldD s (a ++ [c]) = toldD s a ++ (((Kg83Neutral.step (after s a) (PyKg83.whole c)).2.length : Int) :: (Kg83Neutral.step (after s a) (PyKg83.whole c)).2) := by
  rw [told_app, told_cons]
  show _ ++ (_ :: (_ ++ [])) = _
  rw [List.append_nil]
theorem put_app : ∀ a b : Raw, PyFlat.put (a ++ b) = PyFlat.put a ++ PyFlat.put b
  | [], _ => rfl
  | c :: a, b => by
    show PyFlat.put1 c ++ PyFlat.put (a ++ b) = (PyFlat.put1 c ++ PyFlat.put a) ++ PyFlat.put b
    rw [put_app a b, List.append_assoc]
theorem step_is {s : Kg83.State} {c : List (List Int)} {k : Kg83.Call} (h : Kg83Neutral.callOf (PyKg83.whole c) = some k) : Kg83Neutral.step s (PyKg83.whole c) = ((Kg83.spec s k).1, (Kg83.spec s k).2.value :: (Kg83.spec s k).2.out) := by
  unfold Kg83Neutral.step
  rw [h]
theorem CallIs.nums {p : Int} {a : List Int} {xs : List (List Int)} {k : Kg83.Call} (h : CallIs p a xs k) : atI (([0, 1, 4, 0, 3, 1, 1, 1, 0, 0, 0] : List Int).map V.int) p = some (nI a.length) := by
  cases h <;> rfl
theorem CallIs.lists {p : Int} {a : List Int} {xs : List (List Int)} {k : Kg83.Call} (h : CallIs p a xs k) : atI (([0, 0, 0, 1, 0, 0, 1, 0, 0, 1, 2] : List Int).map V.int) p = some (nI xs.length) ∧ xs.length ≤ 2 := by
  cases h <;> exact ⟨rfl, by simp⟩
/-- ahead of each turn -/
def CallsAt (K : PySem.W.Frag) (H : Hp) (c : Addr) (xs : List V) (G : Prop) : Prop := (Rd H c (.lst xs) ∧ G) ∨ ∃ (o : Obj) (its : Array Value) (n : Nat), K.lookup c = some o ∧ o.cls = .type "list" ∧ o.dict = none ∧ o.data = .seq its n ∧ its.size ≤ sizeLine ∧ Vals xs its.toList
theorem CallsAt.sq {K : PySem.W.Frag} {H : Hp} {c : Addr} {xs : List V} {G : Prop} (h : CallsAt K H c xs G) : SqL K H c xs := by
  rcases h with ⟨h, _⟩ | h
  · exact .inl h
  · exact .inr h
theorem CallsAt.keep {K : PySem.W.Frag} {H H' : Hp} {c : Addr} {xs : List V} {G G' : Prop} (h : CallsAt K H c xs G) (e : G → ∀ o, H c = some o → (∀ ps, o ≠ .tbl ps) → H' c = some o ∧ G') : CallsAt K H' c xs G' := by
  rcases h with ⟨h | ⟨o, h⟩, g⟩ | h
  · obtain ⟨h1, h2⟩ := e g _ h fun _ z => by cases z
    exact .inl ⟨.inl h1, h2⟩
  · obtain ⟨h1, h2⟩ := e g _ h fun _ z => by cases z
    exact .inl ⟨.inr ⟨o, h1⟩, h2⟩
  · exact .inr h
theorem CallsAt.of {K : PySem.W.Frag} {H : Hp} {c : Addr} {xs : List V} (h : SqL K H c xs) : CallsAt K H c xs True := by
  rcases h with h | h
  · exact .inl ⟨h, trivial⟩
  · exact .inr h
structure Turn1 (K : PySem.W.Frag) (A : Ads) (c : Addr) (cs : Raw) (n : Nat) (M F : Addr) (m : MA) (done rest : Raw) (H : Hp) : Prop where
  eq : cs = done ++ rest
  len : rest.length = n
  meet : MeetAt A H M m (after Kg83.init done)
  hc : CallsAt K H c ((PyFlat.put cs).map V.int) (c ∉ foot M m (after Kg83.init done) ∧ c ≠ F)
  hF : H F = some (.lst ((toldD Kg83.init done).map V.int))
  fs : F ∉ supp M m (after Kg83.init done)
section
variable {P : Program} {w : World} {K : PySem.W.Frag} {mg : Str → Option Value} {base : Heap} {A : Ads}
/-! answers -/
def spAnswers (K : PySem.W.Frag) (A : Ads) : Sp := fun vs H Q E => ∃ (c : Addr) (cs : Raw), vs = [.ref c] ∧ SqL K H c ((PyFlat.put cs).map V.int) ∧ Tabs (tabO A) H ∧ (∀ x ∈ cs, PyFlat.okCall PyKg83.shape x) ∧ (∀ x ∈ cs, ∀ r ∈ x.tail, r.length ≤ 100) ∧ (PyFlat.put cs).length ≤ sizeLine ∧ (toldD Kg83.init cs).length ≤ 10000000 ∧
  ∀ H' L, H' L = some (.lst ((toldD Kg83.init cs).map V.int)) → Q (.ref L) H'
theorem sc_answers : FnScope ["calls", "meet", "found", "at", "kind", "behind", "numbers", "lists", "answer"] ["calls"] (defScope s_answers) := ⟨rfl, rfl, rfl, by decide +kernel, rfl, by decide +kernel, by decide +kernel⟩
theorem ok_answers {fd : FuncData} (F : Fun K "answers" "answers" s_answers A.answers fd) (T : Txt K mg A) (TB : TabB base mg A.cOrder A.pOrder) : FnOk P w K mg base CX0 20 A.answers fd ["calls"] (spAnswers K A) := by
  refine F.ok sc_answers (fun vs H Q E h => ?_) (fun cdv Ar outer s0 H vs Q E hr h => ?_)
  · obtain ⟨_, _, rfl, _⟩ := h
    rfl
  obtain ⟨c, cs, rfl, hc, hT, hok, h100, hsz, hlong, k⟩ := h
  have G_Meet := ok_Meet_init (P := P) (w := w) (base := base) T
  have G_lists_at := ok_lists_at (P := P) (w := w) (base := base) T
  have G_answered := ok_answered (P := P) (w := w) (base := base) T TB
  refine ⟨_, (pss_cons (ps_set (i := 1) sc_answers.nd rfl (Or.inl rfl) (pe_mk0 T.k_Meet G_Meet (hr.mono (by decide)) rfl T.g_Meet pass0))
    (pss_cons (ps_set (i := 2) sc_answers.nd rfl (Or.inl rfl) (pe_lst pa_nil))
    (pss_cons (ps_set (i := 3) sc_answers.nd rfl (Or.inl rfl) pe_int)
    (pss_cons (ps_while PassesOwn.never (pt_cmpR op_lt (pv 3) (pe_callB call_len_seq (by rfl) T.b_len PySem.boot_len (pa_cons (pv 0) pa_nil)) (nomark _)) (pss_cons (ps_set (i := 4) sc_answers.nd rfl (Or.inl rfl) (pe_ix ix_list (pv 0) (pv 3) (fun _ _ => rfl)))
    (pss_cons (ps_set (i := 5) sc_answers.nd rfl (Or.inl rfl) (pe_op op_add (pe_op op_add (pv 3) pe_int) (pe_ix ix_tup (pe_gr rfl T.g_NUMBERS) (pv 4) (fun _ _ => rfl))))
    (pss_cons (ps_set (i := 6) sc_answers.nd rfl (Or.inl rfl) (pe_slice sl_list (pv 0) (po_some (pe_op op_add (pv 3) pe_int)) (po_some (pv 5))))
    (pss_cons (ps_asg (pe_c G_lists_at (hr.mono (by decide)) rfl T.g_lists_at pass0 (pa_cons (pv 0) (pa_cons (pv 5) (pa_cons (pe_ix ix_tup (pe_gr rfl T.g_LISTS) (pv 4) (fun _ _ => rfl)) pa_nil)))) (pg_tup rfl (pgs_cons (pg_name (i := 7) sc_answers.nd rfl (Or.inl rfl)) (pgs_cons (pg_name (i := 3) sc_answers.nd rfl (Or.inl rfl)) pgs_nil))))
    (pss_cons (ps_set (i := 8) sc_answers.nd rfl (Or.inl rfl) (pe_c G_answered (hr.mono (by decide)) rfl T.g_answered pass0 (pa_cons (pv 1) (pa_cons (pv 4) (pa_cons (pv 6) (pa_cons (pv 7) pa_nil))))))
    (pss_cons (ps_expr (pe_bm PySem.F.plainAttrs_list PySem.F.slot_list_append PySem.F.type_list_append mt_append (pv 2) (pa_cons (pe_callB call_len_seq (by rfl) T.b_len PySem.boot_len (pa_cons (pv 8) pa_nil)) pa_nil)))
    (pss_one (ps_expr (pe_bm PySem.F.plainAttrs_list PySem.F.slot_list_extend PySem.F.type_list_extend mt_extend (pv 2) (pa_cons (pv 8) pa_nil)))))))))))
    (pss_one (ps_ret (pv 2))))))), ?_⟩
  refine fun M dx nM ndx ne => ⟨M, dx, rfl, upd_same, ?_, fun H1 m hM keep => ⟨rfl, (by show 0 ≤ sizeLine; decide), fun F nF => ?_⟩⟩
  · exact hT.ext fun b o e => by
      rw [upd_ne (ne_of_none e nM), upd_ne (ne_of_none e ndx)]
      exact e
  have old : ∀ b o, H b = some o → H1 b = some o := fun b o e => keep b o (by
    rw [upd_ne (ne_of_none e nM), upd_ne (ne_of_none e ndx)]
    exact e) (ne_of_none e nM)
  have sF : Same H1 (upd H1 F (.lst [])) := Same.new nF
  refine ⟨fun n σ H' => ∃ (at_ : V) (kv bv nv lv av : Option V) (m' : MA) (done rest : Raw), σ = [some (.ref c), some (.ref M), some (.ref F), some (nI (PyFlat.put done).length), kv, bv, nv, lv, av] ∧ Turn1 K A c cs n M F m' done rest H', ⟨cs.length, .non, _, _, _, _, _, m, [], cs, rfl, rfl, rfl, hM.same sF, (CallsAt.of hc).keep fun _ o e _ => ⟨sF _ _ (old _ _ e), fun z => ne_of_none e nM (List.mem_singleton.mp (show c ∈ [M] from z)), ne_of_none (old _ _ e) nF⟩, upd_same, ?_⟩, ?_⟩
  · intro z
    have live : ∃ o, H1 F = some o := by
      have z : F ∈ M :: m.tn :: m.tR :: (m.trs ++ []) := z
      simp at z
      rcases z with z | z | z | z
      · exact ⟨_, by rw [z]; exact hM.ins⟩
      · exact ⟨_, by rw [z]; exact hM.tp.t1⟩
      · exact ⟨_, by rw [z]; exact hM.tp.t2⟩
      · obtain ⟨f, hf⟩ := List.mem_iff_getElem?.mp z
        exact ⟨_, hM.tp.t4 f F hf⟩
    obtain ⟨o, ho⟩ := live
    rw [nF] at ho
    cases ho
  · rintro n σ H2 ⟨_, kv, bv, nv, lv, av, m', done, rest, rfl, t⟩
    refine ⟨_, rfl, _, rfl, c, _, rfl, .inl (t.hc.sq), _, _, rfl, rfl, _, rfl, ?_⟩
    rw [List.length_map]
    have hput : PyFlat.put cs = PyFlat.put done ++ PyFlat.put rest := by rw [t.eq, put_app]
    cases hrest : rest with
    | nil =>
      rw [hrest] at hput
      refine dF ?_ ⟨_, rfl, k H2 F ?_⟩
      · rw [hput]
        show ¬ ((PyFlat.put done).length : Int) < ((PyFlat.put done ++ []).length : Nat)
        rw [List.append_nil]
        omega
      · rw [t.hF, t.eq, hrest, List.append_nil]
    | cons x rest' =>
      rw [hrest] at hput
      have eqr : cs = done ++ (x :: rest') := by rw [t.eq, hrest]
      have hxm : x ∈ cs := by rw [eqr]; simp
      have hx100 := h100 x hxm
      obtain ⟨p, a, xs, ex, hs⟩ := hok x hxm
      subst ex
      obtain ⟨kc, hci, hco⟩ := CallIs.of hs
      have e1 : PyFlat.put cs = PyFlat.put done ++ (p :: (a ++ (PyFlat.putRows xs ++ PyFlat.put rest'))) := by
        rw [hput]
        show _ ++ (((p :: a) ++ PyFlat.putRows xs) ++ PyFlat.put rest') = _
        rw [List.append_assoc]
        rfl
      have ed : (PyFlat.put cs).drop (PyFlat.put done).length = p :: (a ++ (PyFlat.putRows xs ++ PyFlat.put rest')) := by rw [e1, PyFlat.drop_len]
      have en : (PyFlat.put cs)[(PyFlat.put done).length]? = some p := by
        have q := congrArg (fun l => l[0]?) ed
        simpa [List.getElem?_drop] using q
      have hn : rest'.length < n := by
        have := t.len
        rw [hrest] at this
        rw [← this]
        exact Nat.lt_succ_self _
      have ati : atI ((PyFlat.put cs).map V.int) (((PyFlat.put done).length : Nat) : Int) = some (.int p) := atI_nat (by rw [List.getElem?_map, en]; rfl)
      refine dT ?_ ⟨_, fun σ' H' z => ⟨rest'.length, hn, z⟩, ?_⟩
      · rw [e1, List.length_append, List.length_cons]
        omega
      refine ⟨_, rfl, _, rfl, c, _, _, .int p, rfl, rfl, t.hc.sq, ati, ?_⟩
      refine ⟨_, rfl, _, _, rfl, rfl, _, rfl, A.tNUMBERS, _, _, nI a.length, rfl, rfl, T.t_NUMBERS _, hci.nums, _, _, rfl, rfl, ?_⟩
      refine ⟨_, rfl, _, rfl, _, _, rfl, rfl, _, rfl, _, rfl, _, rfl, c, _, rfl, t.hc.sq, fun q nq => ?_⟩
      have ecut : cutV ((PyFlat.put cs).map V.int) (some ((((PyFlat.put done).length : Nat) : Int) + 1)) (some ((((PyFlat.put done).length : Nat) : Int) + 1 + (a.length : Int))) = a.map V.int := by
        have q := cutV_nat ((PyFlat.put cs).map V.int) ((PyFlat.put done).length + 1) ((PyFlat.put done).length + 1 + a.length)
        have e3 : (PyFlat.put cs).drop ((PyFlat.put done).length + 1) = a ++ (PyFlat.putRows xs ++ PyFlat.put rest') := by
          rw [← List.drop_drop, ed]
          rfl
        rw [← List.map_drop, e3, ← List.map_take, Nat.add_sub_cancel_left, PyFlat.take_len] at q
        exact q
      rw [ecut]
      have sq := Same.new (o := .lst (a.map V.int)) nq
      refine ⟨_, rfl, _, rfl, _, rfl, A.tLISTS, _, _, nI xs.length, rfl, rfl, T.t_LISTS _, hci.lists.1, c, PyFlat.put cs, (PyFlat.put done).length + 1 + a.length, xs, PyFlat.put rest', rfl, Same.seq sq t.hc.sq, ?_, hci.lists.2, fun H3 T3 fL ps s3 hT3 hfL hl hps hfr => ⟨T3, _, rfl, SqT.of hT3, rfl, _, _, rfl, _, _, rfl, rfl, ?_⟩⟩
      · rw [← List.drop_drop, ← List.drop_drop, ed]
        show (a ++ _).drop a.length = _
        rw [PyFlat.drop_len]
      have s23 := sq.trans s3
      have hM3 := t.meet.same s23
      have live : ∀ b ∈ foot M m' (after Kg83.init done), ∃ o, H2 b = some o := fun b hb => by
        rcases List.mem_cons.mp hb with z | z
        · exact ⟨_, by rw [z]; exact t.meet.ins⟩
        · unfold mutA at z
          split at z
          · cases z
          · rename_i h0
            have hR := t.meet.rnd h0
            rcases List.mem_cons.mp z with z | z
            · exact ⟨_, by rw [z]; exact hR.scr⟩
            · obtain ⟨i, hi⟩ := List.mem_iff_getElem?.mp z
              have hl := (List.getElem?_eq_some_iff.mp hi).1
              rw [hR.al] at hl
              exact ⟨_, hR.at_ i _ b (List.getElem?_eq_getElem hl) hi⟩
      refine ⟨_, rfl, _, rfl, _, rfl, _, rfl, M, m', after Kg83.init done, p, q, fL, ps, a, xs, kc, rfl, hM3, ⟨s3 _ _ upd_same, hfL, hl, hps⟩, hci, fun r hr => hx100 r hr, fun b hb hb2 => ?_, fun H4 m4 L st hL nL => ?_⟩
      · obtain ⟨o, ho⟩ := live b hb2
        have := hfr b hb
        rw [sq _ _ ho] at this
        cases this
      have nt : ∀ (xs : List V) (ps : Array Value), HO.lst xs ≠ .tbl ps := fun _ _ z => by cases z
      have hF3 := s23 _ _ t.hF
      have Ff : F ∉ foot M m' (after Kg83.init done) := fun z => t.fs (foot_supp z)
      have hF4 := st.keep F _ hF3 (nt _) Ff
      have FL : F ≠ L := nL F _ hF3 (nt _) Ff
      have est := step_is (s := after Kg83.init done) hco
      have etold : toldD Kg83.init (done ++ [(p :: a) :: xs]) = toldD Kg83.init done ++ ((((Kg83.spec (after Kg83.init done) kc).2.value :: (Kg83.spec (after Kg83.init done) kc).2.out).length : Int) :: ((Kg83.spec (after Kg83.init done) kc).2.value :: (Kg83.spec (after Kg83.init done) kc).2.out)) := by
        rw [told_snoc, est]
      have eafter : after Kg83.init (done ++ [(p :: a) :: xs]) = (Kg83.spec (after Kg83.init done) kc).1 := by
        rw [after_snoc, est]
      have eqs : cs = (done ++ [(p :: a) :: xs]) ++ rest' := by
        rw [eqr, List.append_assoc]
        rfl
      have lenA : (toldD Kg83.init done).length + (1 + ((Kg83.spec (after Kg83.init done) kc).2.value :: (Kg83.spec (after Kg83.init done) kc).2.out).length) ≤ 10000000 := by
        have q := hlong
        rw [eqs, told_app, etold, List.length_append, List.length_append, List.length_cons] at q
        omega
      generalize ((Kg83.spec (after Kg83.init done) kc).2.value :: (Kg83.spec (after Kg83.init done) kc).2.out) = ans at hL etold lenA
      refine ⟨_, rfl, .inl ⟨rfl, _, SqL.of hF4⟩, _, rfl, L, _, rfl, .inl (SqL.of hL), F, _, _, rfl, rfl, hF4, ?_, ?_⟩
      · rw [List.length_map, sizeLine_eq]
        omega
      rw [List.length_map]
      refine ⟨_, rfl, .inl ⟨rfl, _, SqL.of upd_same⟩, _, rfl, F, L, _, _, rfl, rfl, upd_same, (upd_ne FL.symm).trans hL, ?_, ?_⟩
      · rw [List.length_append, List.length_map, List.length_map, sizeLine_eq]
        show _ + 1 + _ ≤ _
        omega
      rw [upd_upd]
      have ed2 : (PyFlat.put (done ++ [(p :: a) :: xs])).length = (PyFlat.put done).length + 1 + a.length + (PyFlat.putRows xs).length := by
        rw [put_app, List.length_append]
        show _ + (((p :: a) ++ PyFlat.putRows xs) ++ []).length = _
        rw [List.append_nil, List.length_append, List.length_cons]
        omega
      refine ⟨.non, _, _, _, _, _, m4, done ++ [(p :: a) :: xs], rest', (by rw [ed2]; rfl), eqs, rfl, ?_, ?_, ?_, ?_⟩
      · rw [eafter]
        refine st.meet.kept (fun b hb o e _ => ?_) (tabs_lst st.meet.tabs hF4 (nt _) lst_code)
        rw [upd_ne (fun z => st.supp F _ hF3 (nt _) t.fs (by rw [← z]; exact hb))]
        exact e
      · rw [eafter]
        exact t.hc.keep fun g o e n => ⟨(upd_ne g.2).trans (st.keep c o (s23 _ _ e) n g.1), st.foots c o (s23 _ _ e) n g.1, g.2⟩
      · rw [upd_same, etold, List.map_append, List.append_assoc]
        rfl
      · rw [eafter]
        exact st.supp F _ hF3 (nt _) t.fs
end
end Cm
/-! The end of a Spec row whose def comes to one maker of code objects: the code object at cO, its table at tO (empty ahead of the call). -/
namespace Cm
open PySem PySem.Spec PyProof.Rows L2 LamX
open PySem.W (WData Codec)
/-! data seen in a heap that tracks more -/
mutual
theorem dw_ext {K : PySem.W.Frag} {H H' : Hp} (up : Same H H') : ∀ (d : WData) (v : V), Dw K H v d → Dw K H' v d
  | .none, _, h => by cases h; exact .non
  | .bool b, _, h => by cases h; exact .bl b
  | .int i, _, h => by cases h; exact .int i
  | .str x, _, h => by cases h; exact .str x
  | .bytes b, _, h => by cases h; exact .byt _
  | .list ds, _, h => by
    cases h with
    | lst hs ha => exact .lst (up.seq hs) (dw_extAll up ds _ ha)
  | .tuple ds, _, h => by
    cases h with
    | tup hs ha => exact .tup (Same.sqT up hs) (dw_extAll up ds _ ha)
  | .float _, _, h => by cases h
  | .dict _, _, h => by cases h
  | .bytearray _, _, h => by cases h
  | .set _, _, h => by cases h
  | .frozenset _, _, h => by cases h
  | .obj _ _, _, h => by cases h
theorem dw_extAll {K : PySem.W.Frag} {H H' : Hp} (up : Same H H') : ∀ (ds : List WData) (vs : List V), DwAll K H vs ds → DwAll K H' vs ds
  | [], _, h => by cases h; exact .nil
  | d :: ds, _, h => by
    cases h with
    | cons h1 h2 => exact .cons (dw_ext up d _ h1) (dw_extAll up ds _ h2)
end
/-- an empty table, as an object -/
abbrev tab0 : Obj := { cls := .none, data := .fields #[] }
/-- the arguments, and the table at tO -/
def trk (K : PySem.W.Frag) (hp : Heap) (As : List Addr) (tO : Addr) : Hp := fun x => if x = tO then some (.tbl #[]) else argH K hp As x
section
variable {P : Program} {w : World} {K : PySem.W.Frag} {hp : Heap} {As : List Addr} {tO cO x : Addr}
theorem trk_tab : trk K hp As tO tO = some (.tbl #[]) := if_pos rfl
theorem trk_at (n : x ≠ tO) : trk K hp As tO x = argH K hp As x := if_neg n
variable (ar : ∀ y ∈ As, ArgOb hp As y) (ht : hp.get? tO = some tab0)
include ar ht
/-- no argument lies at the table -/
theorem arg_ne {u : HO} (q : argH K hp As x = some u) : x ≠ tO := by
  rintro rfl
  obtain ⟨_, us, _, _, z | z⟩ := argH_is ar q <;> · have y := ht.symm.trans z.1; cases y
theorem trk_up : Same (argH K hp As) (trk K hp As tO) := fun y u q => (trk_at (arg_ne ar ht q)).trans q
theorem trk_kind (y : Addr) : trk K hp As tO y = none ∨ y = tO ∨ ∃ ob u, trk K hp As tO y = some (.frz ob u) := by
  by_cases c : y = tO
  · exact .inr (.inl c)
  rw [trk_at c]
  rcases argH_only (K := K) ar y with z | z
  · exact .inl z
  · exact .inr (.inr z)
theorem trk_ok : HOk P w (trk K hp As tO) hp := fun y u q => by
  by_cases c : y = tO
  · subst c
    rw [trk_tab] at q
    cases q
    exact ht
  rw [trk_at c] at q
  obtain ⟨_, us, l1, l2, ⟨g, rfl⟩ | ⟨g, rfl⟩⟩ := argH_is ar q
  · exact ⟨g, (List.length_map (f := toV)).symm ▸ l1, us, _, vals_toV l2, g⟩
  · exact ⟨g, (List.length_map (f := toV)).symm ▸ l1, us, vals_toV l2, _, g, rfl, _, rfl⟩
/-- what is no row of values and no empty record is not tracked -/
theorem trk_not {ob : Obj} (g : hp.get? x = some ob) (n1 : ∀ us n, ob.data ≠ .seq us n) (n2 : ob.data ≠ .fields #[]) : trk K hp As tO x = none := by
  by_cases c : x = tO
  · subst c
    cases ht.symm.trans g
    exact absurd rfl n2
  rw [trk_at c]
  cases q : argH K hp As x with
  | none => rfl
  | some u =>
    obtain ⟨_, us, _, _, z | z⟩ := argH_is ar q <;> · cases z.1.symm.trans g; exact absurd rfl (n1 _ _)
theorem trk_text {ob : Obj} (nt : K.lookup tO = none) (g : K.lookup x = some ob) : trk K hp As tO x = none := by
  have c : x ≠ tO := fun z => by
    rw [z, nt] at g
    cases g
  rw [trk_at c]
  cases q : argH K hp As x with
  | none => rfl
  | some u => exact absurd (g.symm.trans (argH_is ar q).1) (by simp)
/-- a name space stands in the ground -/
theorem trk_ns {m : Str → Option Value} (n : hp.Ns x m) : (hidT hp (trk K hp As tO)).Ns x m := by
  obtain ⟨ob, es, ep, g, dd, more⟩ := n
  exact ⟨ob, es, ep, hidT_get g (trk_not ar ht g (fun _ _ z => by rw [dd] at z; cases z) (fun z => by rw [dd] at z; cases z)), dd, more⟩
/-- the maker's code object and the table's place, in the ground -/
theorem trk_tabB {mg : Str → Option Value} (hG : hp.Ns mainGlobals mg) (hC : PySem.W.CodeHd hp cO tO)
    (hB : ∃ (md : Addr) (om : Obj), mg "__builtins__" = some (.ref md) ∧ md ≠ builtinsNs ∧ hp.get? md = some om ∧ om.cls = .type "module" ∧ om.dict = some builtinsNs ∧ om.data = .plain) : TabB (hidT hp (trk K hp As tO)) mg cO tO := by
  have gT : mainGlobals ≠ tO := by
    obtain ⟨ob, es, ep, g, dd, _⟩ := hG
    intro z
    rw [z] at g
    cases ht.symm.trans g
    cases dd
  refine ⟨?_, ?_, gT⟩
  · obtain ⟨oc, us, q1, q2, q3, q4, q5, q6, q7, g, c1, c2, c3, cs⟩ := hC
    exact ⟨oc, us, q1, q2, q3, q4, q5, q6, q7, hidT_get g (trk_not ar ht g (fun _ _ z => by rw [c2] at z; cases z) (fun z => by rw [c2] at z; cases z; simp at c3)), c1, c2, c3, cs⟩
  · obtain ⟨md, om, m1, m2, g, m4, m5, m6⟩ := hB
    refine ⟨md, om, m1, m2, fun z => ?_, fun z => ?_, hidT_get g (trk_not ar ht g (fun _ _ z => by rw [m6] at z; cases z) (fun z => by rw [m6] at z; cases z)), m4, m5, m6⟩
    · obtain ⟨ob, es, ep, g2, dd, _⟩ := hG
      rw [z] at g
      cases g2.symm.trans g
      rw [dd] at m6
      cases m6
    · rw [z] at g
      cases ht.symm.trans g
      cases m6
end
/-- the call -/
theorem call_met {P : Program} {w : World} {K : PySem.W.Frag} {mg mb : Str → Option Value} {CX : CXT} {k : Nat} {fa cO tO : Addr} {fd : FuncData} {ps : List Str} {sp : Sp} {sh : Shared} {us : List Value} {ds : List WData} {rec : PySem.W.WRecords} {cls : Str → Option Addr} {due : WData}
    (inK : K.In sh.heap) (hG : sh.heap.Ns mainGlobals mg) (hBn : sh.heap.Ns builtinsNs mb) (boot : ∀ y : Str, y ≠ "__name__" → mb y = bootBuiltins y) (lim : sh.heap.NoLimit) (gens : sh.gens = #[]) (ht : sh.heap.get? tO = some tab0) (nt : K.lookup tO = none) (hC : PySem.W.CodeHd sh.heap cO tO)
    (hB : ∃ (md : Addr) (om : Obj), mg "__builtins__" = some (.ref md) ∧ md ≠ builtinsNs ∧ sh.heap.get? md = some om ∧ om.cls = .type "module" ∧ om.dict = some builtinsNs ∧ om.data = .plain)
    (well : PySem.W.WellAll w.params sh.heap us ds) (plain : plWs ds = true) (light : ∀ d ∈ ds, d.weight ≤ 1048576) (room : Room k callerA) (many : ds.length = ps.length)
    (def_ : ∀ bs : Heap, K.In bs → bs.Ns mainGlobals mg → TabB bs mg cO tO → FnOk P w K mg bs CX k fa fd ps sp) (bind : ∀ (s : Shared) (vs : List Value), vs.length = ps.length → BindsTo s fd ⟨vs, []⟩ (ps.zip vs))
    (met : ∀ (H : Hp) (xs : List V), H tO = some (.tbl #[]) → DwAll K H xs ds → sp xs H (fun v H' => Dw K H' v due) fun _ _ _ => False) (calm : ∀ H e s', ¬ CX [] H sh (fun _ _ _ => False) e s') :
    codeAny (model P w) callerA (.call (.ref fa) ⟨us, []⟩) (fun r s' => ∃ u as, r = .ok (.ret u) ∧ PySem.W.ReadsW rec cls s'.heap u due as ∧ OldK sh.heap s'.heap ∧ s'.os = sh.os ∧ AllBare s'.gens) sh := by
  obtain ⟨As, okU, ar⟩ := area_all ds us well plain light
  have data := dw_extAll (trk_up ar ht) _ _ (dw_all inK ar ds us well plain okU)
  have ground : K.In (hidT sh.heap (trk K sh.heap As tO)) := fun y ob g => hidT_get (inK y ob g) (trk_text ar ht nt g)
  have modu : L2.Mod K mg (hidT sh.heap (trk K sh.heap As tO)) := by
    obtain ⟨mc, c1, c2⟩ := lim
    exact ⟨ground, trk_ns ar ht hG, ⟨mb, trk_ns ar ht hBn, boot⟩, ⟨mc, trk_ns ar ht c1, c2⟩⟩
  have env : Env0 P w K mg (hidT sh.heap (trk K sh.heap As tO)) callerA [] sh (trk K sh.heap As tO) :=
    { frames := rfl, mod := modu, bs := fun _ _ g => of_hidT g, bsz := Nat.le_of_eq (hidT_size _ _), funs := trivial, frf := (fun _ z => by cases (show _ ∈ ([] : List Addr) from z)), hok := trk_ok ar ht, bare := .of_eq gens }
  have lenU : us.length = ps.length := (wellAll_len well).trans many
  refine codeAny_mono ((def_ _ ground modu.glob (trk_tabB ar ht hG hC hB)).run callerA [] sh _ ⟨us, []⟩ us (us.map toV) _ _ room env (bind sh us lenU) (vals_toV okU) (met _ _ trk_tab data)) fun res s' fin => ?_
  match res, fin with
  | .error e, fin => exact absurd fin (calm _ e s')
  | .ok .next, fin => exact fin.elim
  | .ok .brk, fin => exact fin.elim
  | .ok .cont, fin => exact fin.elim
  | .ok (.ret u), fin =>
    obtain ⟨v, H', os, bare, un, ok', rel, dw⟩ := fin
    have stay : ∀ y ob, y ≠ tO → sh.heap.get? y = some ob → s'.heap.get? y = some ob := fun y ob c g => by
      rcases trk_kind (K := K) ar ht y with z | z | ⟨o2, u2, z⟩
      · exact un.keep y ob g z (fun m => by cases (show y ∈ ([] : List Addr) from m)) (fun m => by cases m)
      · exact absurd z c
      · cases (trk_ok (P := P) (w := w) ar ht y _ z).1.symm.trans g
        exact (ok' y _ (un.frzs y _ _ z)).1
    obtain ⟨more, grown⟩ := un.tbls tO #[] trk_tab
    have grown2 : s'.heap.get? tO = some { cls := .none, data := .fields (#[] ++ more) } := ok' tO _ grown
    have inK' : K.In s'.heap := fun y ob g => stay y ob (fun z => by rw [z, nt] at g; cases g) (inK y ob g)
    obtain ⟨as, rd⟩ := Dw.reads (R := rec) (cl := cls) ok' inK' due v u dw rel
    refine ⟨u, as, rfl, rd, ⟨fun y ob g => ?_, fun y ob g => ?_⟩, os, bare⟩
    · by_cases c : y = tO
      · subst c
        cases ht.symm.trans g
        exact .inr (.inl ⟨(hC.tab ht).isCodeTable, rfl, #[], more, rfl, grown2⟩)
      · exact .inl (stay y ob c g)
    · by_cases c : y = tO
      · subst c
        exact ⟨_, grown2⟩
      · exact ⟨ob, stay y ob c g⟩
/-- what is to be shown of the row's def, the head's heap h given -/
def Shown (r : PySem.W.OpenSpec) (w : World) (K : PySem.W.Frag) (CX : CXT) (k : Nat) (ps : List Str) (mg : Str → Option Value) (fa : Addr) (h : Heap) : Prop :=
  ∃ (fd : FuncData) (cO tO : Addr) (sp : Sp), h.get? tO = some tab0 ∧ K.lookup tO = none ∧ PySem.W.CodeHd h cO tO ∧ (∀ (s : Shared) (vs : List Value), vs.length = ps.length → BindsTo s fd ⟨vs, []⟩ (ps.zip vs)) ∧
    (∀ (H : Hp) (xs : List V) (a : Codec.denoteAll r.args), H tO = some (.tbl #[]) → Codec.withinAll r.args a = true → Codec.app r.args r.asked a = true → DwAll K H xs (Codec.encAll r.args a) → sp xs H (fun v H' => Dw K H' v (r.ret.enc (Codec.app r.args r.f a))) fun _ _ _ => False) ∧
    ∀ bs : Heap, K.In bs → bs.Ns mainGlobals mg → TabB bs mg cO tO → FnOk r.prog w K mg bs CX k fa fd ps sp
theorem row_met {r : PySem.W.OpenSpec} {k : Nat} {q : Program} {loose : List Str} {XP : (Str → Option Value) → Heap → Prop} {YP : World → Heap → Prop} {d : DefRec} {K : Params → PySem.W.Frag} {CX : CXT} {ps : List Str} (said : r.wellSaid = true) (dflt : d.params.defaults = []) (many : r.args.length = ps.length) (room : Room k callerA)
    (inK : ∀ (w : World) (h : Heap), YP w h → (K w.params).In h) (show_ : ∀ (w : World) (mg : Str → Option Value) (fa : Addr) (h : Heap), YP w h → (K w.params).In h → h.Ns mainGlobals mg → mg d.name = some (.ref fa) → Shown r w (K w.params) CX k ps mg fa h)
    (calm : ∀ (H : Hp) (s : Shared) (e : Value) (s' : Shared), ¬ CX [] H s (fun _ _ _ => False) e s') : PySem.W.WalkOS q loose XP YP r d [] (fun f vs => PySem.call f vs) := by
  intro w sA sB mg mb gr yp fa _ _ _ _ _ _ _ _ _ _ name gens _ us _ pre lay _ well _
  obtain ⟨a, dec, ask⟩ := PySem.W.os_pre_some pre
  obtain ⟨rfl, within⟩ := Codec.encAll_of_decAll r.args _ a dec
  obtain ⟨fd, cO, tO, sp, t1, t2, t3, t4, t5, t6⟩ := show_ w mg fa _ yp (inK w _ yp) gr.T.g name
  refine PySem.W.enter_call (codeAny_mono (call_met (rec := []) (cls := classAt sA.heap) (due := r.ret.enc (Codec.app r.args r.f a)) (inK w _ yp) gr.T.g gr.T.b gr.T.builtins gr.T.nolimit gens t1 t2 t3 gr.T.bmain well (pl_encAll _ _) (layable_weight lay) room ((encAll_len _ _).trans many) t6 t4 (fun H xs hH hx => t5 H xs a hH within ask hx) fun H e s' => calm H sB e s') fun res s' fin => ?_)
  obtain ⟨u, as, rfl, rd, old, os, bare⟩ := fin
  exact ⟨.inl ⟨u, _, as, rfl, fun _ => rfl, rd, (PySem.W.OpenSpec.post_iff said within _ _).mpr rfl, fun z => by cases (show false = true from z)⟩, old, os, bare⟩
end Cm
/-! what is asked, plain -/
namespace Cm
theorem rows_100 {p : Int} {a : List Int} {xs : List (List Int)} {k : Kg83.Call} (h : CallIs p a xs k) (q : PyInside.call PyKg83.bound ((p :: a) :: xs) = true) : ∀ r ∈ xs, r.length ≤ 100 := by
  have q2 : PyInside.lists (PyKg83.bound p).2 xs = true := (Bool.and_eq_true_iff.mp (show (PyInside.each (PyKg83.bound p).1 a && PyInside.lists (PyKg83.bound p).2 xs) = true from q)).2
  clear q
  intro r hr
  cases h with
  | begin_ n => cases hr
  | round_ k l c m => cases hr
  | time i t p => cases hr
  | none_ i => cases hr
  | card i => cases hr
  | order => cases hr
  | scramble l =>
    rw [List.mem_singleton.mp hr]
    have q : (decide (0 ≤ l.length) && decide (l.length ≤ 100) && l.all (PyInside.within (-2147483648) 2147483647) && true) = true := q2
    simp at q
    exact q.1
  | solution i l =>
    rw [List.mem_singleton.mp hr]
    have q : (decide (0 ≤ l.length) && decide (l.length ≤ 100) && l.all (PyInside.within (-2147483648) 2147483647) && true) = true := q2
    simp at q
    exact q.1
  | cube l =>
    rw [List.mem_singleton.mp hr]
    have q : (decide (0 ≤ l.length) && decide (l.length ≤ 100) && l.all (PyInside.within (-2147483648) 2147483647) && true) = true := q2
    simp at q
    exact q.1
  | solves x y =>
    have q : (decide (0 ≤ x.length) && decide (x.length ≤ 100) && x.all (PyInside.within (-2147483648) 2147483647) && (decide (0 ≤ y.length) && decide (y.length ≤ 100) && y.all (PyInside.within (-2147483648) 2147483647) && true)) = true := q2
    simp at q
    rcases List.mem_cons.mp hr with z | z
    · rw [z]
      exact q.1.1
    · rw [List.mem_singleton.mp z]
      exact q.2.1
theorem asked_ok {ns : List Int} (h : PyKg83.answers_asked ns = true) : ∃ cs : Raw, ns = PyFlat.put cs ∧ (∀ x ∈ cs, PyFlat.okCall PyKg83.shape x) ∧ (∀ x ∈ cs, ∀ r ∈ x.tail, r.length ≤ 100) ∧ (toldD Kg83.init cs).length ≤ 10000000 ∧ PyKg83.answers ns = toldD Kg83.init cs := by
  unfold PyKg83.answers_asked at h
  cases e : PyFlat.calls PyKg83.shape ns.length ns with
  | none =>
    rw [e] at h
    cases h
  | some raw =>
    rw [e] at h
    have h : (!raw.isEmpty && PyFlat.atMost 120 raw && PyInside.calls PyKg83.bound raw && Kg83Neutral.asked (raw.map PyKg83.whole) && PyFlat.short 10000000 (PyKg83.answers ns)) = true := h
    obtain ⟨h, h5⟩ := Bool.and_eq_true_iff.mp h
    obtain ⟨h, h4⟩ := Bool.and_eq_true_iff.mp h
    obtain ⟨h, h3⟩ := Bool.and_eq_true_iff.mp h
    obtain ⟨e1, e2⟩ := PyFlat.put_calls _ _ _ e
    have ea : PyKg83.answers ns = toldD Kg83.init raw := by
      unfold PyKg83.answers PyKg83.calls
      rw [e]
      rfl
    refine ⟨raw, e1, e2, fun x hx r hr => ?_, ?_, ea⟩
    · obtain ⟨p, a, xs, rfl, hs⟩ := e2 x hx
      obtain ⟨k, hci, _⟩ := CallIs.of hs
      exact rows_100 hci (List.all_eq_true.mp h3 _ hx) r hr
    · rw [← ea]
      exact of_decide_eq_true h5
end Cm
namespace Cm
open PySem PySem.Spec PyProof.Rows L2 LamX
/-- an error of the class at S is what «except S» names -/
theorem exm_self {K : PySem.W.Frag} {S : Addr} (h1 : PySem.W.subIn K (.ref S) (.type "BaseException") = some true) (h2 : PySem.W.isClsIn K S = true) (h3 : PySem.W.typeIn K (.ref S) = some (.type "type")) (h4 : PySem.W.subIn K (.ref S) (.ref S) = some true) :
    PySem.W.exmOne K (.ref S) (.ref S) = some true := by
  have e1 : (PySem.W.subIn K (.ref S) (.type "BaseException") == some true) = true := by rw [h1] <;> rfl
  have e2 : ((PySem.W.clsIn K S).isSome && PySem.W.typeIn K (.ref S) == some (.type "type")) = true := by
    have h2' : (PySem.W.clsIn K S).isSome = true := h2
    rw [h2', h3] <;> rfl
  show (if (PySem.W.subIn K (.ref S) (.type "BaseException") == some true) = true then (if ((PySem.W.clsIn K S).isSome && PySem.W.typeIn K (.ref S) == some (.type "type")) = true then PySem.W.subIn K (.ref S) (.ref S) else none) else none) = some true
  rw [if_pos e1, if_pos e2]
  exact h4
/-- what the head has to show of the def -/
def FCase (P : Program) (w : World) (K : PySem.W.Frag) (mg : Str → Option Value) (fa : Addr) (h : Heap) : Prop :=
  ∃ (fd : FuncData) (A : Ads), h.get? A.pOrder = some tab0 ∧ K.lookup A.pOrder = none ∧ PySem.W.CodeHd h A.cOrder A.pOrder ∧ (∀ (s : Shared) (vs : List Value), vs.length = (["calls"] : List Str).length → BindsTo s fd ⟨vs, []⟩ ((["calls"] : List Str).zip vs)) ∧
    ∀ bs : Heap, K.In bs → bs.Ns mainGlobals mg → TabB bs mg A.cOrder A.pOrder → FnOk P w K mg bs CX0 20 fa fd ["calls"] (spAnswers K A)
theorem all_mk {P : Program} {w : World} {K : PySem.W.Frag} {h : Heap} {mg : Str → Option Value} {fa : Addr} (X : K.In h) (G : h.Ns mainGlobals mg) (hfa : mg "answers" = some (.ref fa)) (tb : h.get? 142 = some tab0) (nt : K.lookup 142 = none)
    {place_of all_stickers inner turned sources solved_cube is_solved are_moves third average behind solution_count must is_within begin begin_round scramble must_attempt put_attempt time no_time solution card order cube solves of_rounds of_cards answered lists_at answers Turns_init Turns_moved Round_init Round_may_have Round_is_over Round_best Round_result Round_rank Round_order Round_timed Meet_init Refused_init CTurns CRound CMeet CRefused tNORMALS n0 n1 n2 n3 n4 n5 tNUMBERS tLISTS cOrder : Addr}
    {od_place_of an_place_of : Option Addr}
    {sl_place_of : Array (Option Value)}
    {oc_place_of kV_place_of dc_place_of pm_place_of ct_place_of cd_place_of : Value}
    {od_all_stickers an_all_stickers : Option Addr}
    {sl_all_stickers : Array (Option Value)}
    {oc_all_stickers kV_all_stickers dc_all_stickers pm_all_stickers ct_all_stickers cd_all_stickers : Value}
    {od_inner an_inner : Option Addr}
    {sl_inner : Array (Option Value)}
    {oc_inner kV_inner dc_inner pm_inner ct_inner cd_inner : Value}
    {od_turned an_turned : Option Addr}
    {sl_turned : Array (Option Value)}
    {oc_turned kV_turned dc_turned pm_turned ct_turned cd_turned : Value}
    {od_sources an_sources : Option Addr}
    {sl_sources : Array (Option Value)}
    {oc_sources kV_sources dc_sources pm_sources ct_sources cd_sources : Value}
    {od_solved_cube an_solved_cube : Option Addr}
    {sl_solved_cube : Array (Option Value)}
    {oc_solved_cube kV_solved_cube dc_solved_cube pm_solved_cube ct_solved_cube cd_solved_cube : Value}
    {od_is_solved an_is_solved : Option Addr}
    {sl_is_solved : Array (Option Value)}
    {oc_is_solved kV_is_solved dc_is_solved pm_is_solved ct_is_solved cd_is_solved : Value}
    {od_are_moves an_are_moves : Option Addr}
    {sl_are_moves : Array (Option Value)}
    {oc_are_moves kV_are_moves dc_are_moves pm_are_moves ct_are_moves cd_are_moves : Value}
    {od_third an_third : Option Addr}
    {sl_third : Array (Option Value)}
    {oc_third kV_third dc_third pm_third ct_third cd_third : Value}
    {od_average an_average : Option Addr}
    {sl_average : Array (Option Value)}
    {oc_average kV_average dc_average pm_average ct_average cd_average : Value}
    {od_behind an_behind : Option Addr}
    {sl_behind : Array (Option Value)}
    {oc_behind kV_behind dc_behind pm_behind ct_behind cd_behind : Value}
    {od_solution_count an_solution_count : Option Addr}
    {sl_solution_count : Array (Option Value)}
    {oc_solution_count kV_solution_count dc_solution_count pm_solution_count ct_solution_count cd_solution_count : Value}
    {od_must an_must : Option Addr}
    {sl_must : Array (Option Value)}
    {oc_must kV_must dc_must pm_must ct_must cd_must : Value}
    {od_is_within an_is_within : Option Addr}
    {sl_is_within : Array (Option Value)}
    {oc_is_within kV_is_within dc_is_within pm_is_within ct_is_within cd_is_within : Value}
    {od_begin an_begin : Option Addr}
    {sl_begin : Array (Option Value)}
    {oc_begin kV_begin dc_begin pm_begin ct_begin cd_begin : Value}
    {od_begin_round an_begin_round : Option Addr}
    {sl_begin_round : Array (Option Value)}
    {oc_begin_round kV_begin_round dc_begin_round pm_begin_round ct_begin_round cd_begin_round : Value}
    {od_scramble an_scramble : Option Addr}
    {sl_scramble : Array (Option Value)}
    {oc_scramble kV_scramble dc_scramble pm_scramble ct_scramble cd_scramble : Value}
    {od_must_attempt an_must_attempt : Option Addr}
    {sl_must_attempt : Array (Option Value)}
    {oc_must_attempt kV_must_attempt dc_must_attempt pm_must_attempt ct_must_attempt cd_must_attempt : Value}
    {od_put_attempt an_put_attempt : Option Addr}
    {sl_put_attempt : Array (Option Value)}
    {oc_put_attempt kV_put_attempt dc_put_attempt pm_put_attempt ct_put_attempt cd_put_attempt : Value}
    {od_time an_time : Option Addr}
    {sl_time : Array (Option Value)}
    {oc_time kV_time dc_time pm_time ct_time cd_time : Value}
    {od_no_time an_no_time : Option Addr}
    {sl_no_time : Array (Option Value)}
    {oc_no_time kV_no_time dc_no_time pm_no_time ct_no_time cd_no_time : Value}
    {od_solution an_solution : Option Addr}
    {sl_solution : Array (Option Value)}
    {oc_solution kV_solution dc_solution pm_solution ct_solution cd_solution : Value}
    {od_card an_card : Option Addr}
    {sl_card : Array (Option Value)}
    {oc_card kV_card dc_card pm_card ct_card cd_card : Value}
    {od_order an_order : Option Addr}
    {sl_order : Array (Option Value)}
    {oc_order kV_order dc_order pm_order ct_order cd_order : Value}
    {od_cube an_cube : Option Addr}
    {sl_cube : Array (Option Value)}
    {oc_cube kV_cube dc_cube pm_cube ct_cube cd_cube : Value}
    {od_solves an_solves : Option Addr}
    {sl_solves : Array (Option Value)}
    {oc_solves kV_solves dc_solves pm_solves ct_solves cd_solves : Value}
    {od_of_rounds an_of_rounds : Option Addr}
    {sl_of_rounds : Array (Option Value)}
    {oc_of_rounds kV_of_rounds dc_of_rounds pm_of_rounds ct_of_rounds cd_of_rounds : Value}
    {od_of_cards an_of_cards : Option Addr}
    {sl_of_cards : Array (Option Value)}
    {oc_of_cards kV_of_cards dc_of_cards pm_of_cards ct_of_cards cd_of_cards : Value}
    {od_answered an_answered : Option Addr}
    {sl_answered : Array (Option Value)}
    {oc_answered kV_answered dc_answered pm_answered ct_answered cd_answered : Value}
    {od_lists_at an_lists_at : Option Addr}
    {sl_lists_at : Array (Option Value)}
    {oc_lists_at kV_lists_at dc_lists_at pm_lists_at ct_lists_at cd_lists_at : Value}
    {od_answers an_answers : Option Addr}
    {sl_answers : Array (Option Value)}
    {oc_answers kV_answers dc_answers pm_answers ct_answers cd_answers : Value}
    {od_Turns_init an_Turns_init : Option Addr}
    {sl_Turns_init : Array (Option Value)}
    {oc_Turns_init kV_Turns_init dc_Turns_init pm_Turns_init ct_Turns_init cd_Turns_init : Value}
    {od_Turns_moved an_Turns_moved : Option Addr}
    {sl_Turns_moved : Array (Option Value)}
    {oc_Turns_moved kV_Turns_moved dc_Turns_moved pm_Turns_moved ct_Turns_moved cd_Turns_moved : Value}
    {od_Round_init an_Round_init : Option Addr}
    {sl_Round_init : Array (Option Value)}
    {oc_Round_init kV_Round_init dc_Round_init pm_Round_init ct_Round_init cd_Round_init : Value}
    {od_Round_may_have an_Round_may_have : Option Addr}
    {sl_Round_may_have : Array (Option Value)}
    {oc_Round_may_have kV_Round_may_have dc_Round_may_have pm_Round_may_have ct_Round_may_have cd_Round_may_have : Value}
    {od_Round_is_over an_Round_is_over : Option Addr}
    {sl_Round_is_over : Array (Option Value)}
    {oc_Round_is_over kV_Round_is_over dc_Round_is_over pm_Round_is_over ct_Round_is_over cd_Round_is_over : Value}
    {od_Round_best an_Round_best : Option Addr}
    {sl_Round_best : Array (Option Value)}
    {oc_Round_best kV_Round_best dc_Round_best pm_Round_best ct_Round_best cd_Round_best : Value}
    {od_Round_result an_Round_result : Option Addr}
    {sl_Round_result : Array (Option Value)}
    {oc_Round_result kV_Round_result dc_Round_result pm_Round_result ct_Round_result cd_Round_result : Value}
    {od_Round_rank an_Round_rank : Option Addr}
    {sl_Round_rank : Array (Option Value)}
    {oc_Round_rank kV_Round_rank dc_Round_rank pm_Round_rank ct_Round_rank cd_Round_rank : Value}
    {od_Round_order an_Round_order : Option Addr}
    {sl_Round_order : Array (Option Value)}
    {oc_Round_order kV_Round_order dc_Round_order pm_Round_order ct_Round_order : Value}
    {od_Round_timed an_Round_timed : Option Addr}
    {sl_Round_timed : Array (Option Value)}
    {oc_Round_timed kV_Round_timed dc_Round_timed pm_Round_timed ct_Round_timed cd_Round_timed : Value}
    {od_Meet_init an_Meet_init : Option Addr}
    {sl_Meet_init : Array (Option Value)}
    {oc_Meet_init kV_Meet_init dc_Meet_init pm_Meet_init ct_Meet_init cd_Meet_init : Value}
    {nmR qR : Str} {NR : Addr} {bsR : List Value} {snR : List Str} {subR : List Value} {abR : Bool} {colR : Option Bool} {ddR : Option Addr} {r0 r1 r2 r3 r5 : Option Value}
    {od_Refused_init an_Refused_init : Option Addr}
    {sl_Refused_init : Array (Option Value)}
    {oc_Refused_init kV_Refused_init dc_Refused_init pm_Refused_init ct_Refused_init cd_Refused_init : Value}
    {ddT_NORMALS : Option Addr}
    {nT_NORMALS : Nat}
    {slT_NORMALS : Array (Option Value)}
    {ddT_n0 : Option Addr}
    {nT_n0 : Nat}
    {slT_n0 : Array (Option Value)}
    {u0_n0 u1_n0 u2_n0 : Tok}
    {ddT_n1 : Option Addr}
    {nT_n1 : Nat}
    {slT_n1 : Array (Option Value)}
    {u0_n1 u1_n1 u2_n1 : Tok}
    {ddT_n2 : Option Addr}
    {nT_n2 : Nat}
    {slT_n2 : Array (Option Value)}
    {u0_n2 u1_n2 u2_n2 : Tok}
    {ddT_n3 : Option Addr}
    {nT_n3 : Nat}
    {slT_n3 : Array (Option Value)}
    {u0_n3 u1_n3 u2_n3 : Tok}
    {ddT_n4 : Option Addr}
    {nT_n4 : Nat}
    {slT_n4 : Array (Option Value)}
    {u0_n4 u1_n4 u2_n4 : Tok}
    {ddT_n5 : Option Addr}
    {nT_n5 : Nat}
    {slT_n5 : Array (Option Value)}
    {u0_n5 u1_n5 u2_n5 : Tok}
    {ddT_NUMBERS : Option Addr}
    {nT_NUMBERS : Nat}
    {slT_NUMBERS : Array (Option Value)}
    {u0_NUMBERS u1_NUMBERS u2_NUMBERS u3_NUMBERS u4_NUMBERS u5_NUMBERS u6_NUMBERS u7_NUMBERS u8_NUMBERS u9_NUMBERS u10_NUMBERS : Tok}
    {ddT_LISTS : Option Addr}
    {nT_LISTS : Nat}
    {slT_LISTS : Array (Option Value)}
    {u0_LISTS u1_LISTS u2_LISTS u3_LISTS u4_LISTS u5_LISTS u6_LISTS u7_LISTS u8_LISTS u9_LISTS u10_LISTS : Tok}
    {u_FACES : Tok}
    {u_MOVES : Tok}
    {u_STICKERS : Tok}
    {u_AVERAGE : Tok}
    {u_BEST : Tok}
    {u_FEWEST : Tok}
    {u_NONE : Tok}
    {u_PENALTY : Tok}
    {u_FOR_MOVE : Tok}
    {u_MOST_MOVES_rounds : Tok}
    {u_MOST_COMPETITORS : Tok}
    {u_MOST_TIME : Tok}
    {u_MOST_HUNDREDTHS : Tok}
    {u_MOST_PENALTIES : Tok}
    {u_MOST_SCRAMBLE : Tok}
    {u_MOST_SOLUTION : Tok}
    {u_MOST_MOVES_desks : Tok}
    {u_SCRAMBLES : Tok}
    (a_place_of : PySem.W.nsIn K mainGlobals "place_of" = some (some (.ref place_of)))
    (l_place_of : K.lookup place_of = some ⟨oc_place_of, od_place_of, .func (PySem.W.fnOf "place_of" "place_of" (defArgs s_place_of) (defBody s_place_of) (defScope s_place_of) .none kV_place_of dc_place_of pm_place_of an_place_of cd_place_of ct_place_of), sl_place_of⟩)
    (c_place_of : PySem.W.codeIn K cd_place_of "place_of" = true)
    (k_place_of : PySem.W.keepIn K (.ref place_of) = true)
    (a_all_stickers : PySem.W.nsIn K mainGlobals "all_stickers" = some (some (.ref all_stickers)))
    (l_all_stickers : K.lookup all_stickers = some ⟨oc_all_stickers, od_all_stickers, .func (PySem.W.fnOf "all_stickers" "all_stickers" (defArgs s_all_stickers) (defBody s_all_stickers) (defScope s_all_stickers) .none kV_all_stickers dc_all_stickers pm_all_stickers an_all_stickers cd_all_stickers ct_all_stickers), sl_all_stickers⟩)
    (c_all_stickers : PySem.W.codeIn K cd_all_stickers "all_stickers" = true)
    (k_all_stickers : PySem.W.keepIn K (.ref all_stickers) = true)
    (a_inner : PySem.W.nsIn K mainGlobals "inner" = some (some (.ref inner)))
    (l_inner : K.lookup inner = some ⟨oc_inner, od_inner, .func (PySem.W.fnOf "inner" "inner" (defArgs s_inner) (defBody s_inner) (defScope s_inner) .none kV_inner dc_inner pm_inner an_inner cd_inner ct_inner), sl_inner⟩)
    (c_inner : PySem.W.codeIn K cd_inner "inner" = true)
    (k_inner : PySem.W.keepIn K (.ref inner) = true)
    (a_turned : PySem.W.nsIn K mainGlobals "turned" = some (some (.ref turned)))
    (l_turned : K.lookup turned = some ⟨oc_turned, od_turned, .func (PySem.W.fnOf "turned" "turned" (defArgs s_turned) (defBody s_turned) (defScope s_turned) .none kV_turned dc_turned pm_turned an_turned cd_turned ct_turned), sl_turned⟩)
    (c_turned : PySem.W.codeIn K cd_turned "turned" = true)
    (k_turned : PySem.W.keepIn K (.ref turned) = true)
    (a_sources : PySem.W.nsIn K mainGlobals "sources" = some (some (.ref sources)))
    (l_sources : K.lookup sources = some ⟨oc_sources, od_sources, .func (PySem.W.fnOf "sources" "sources" (defArgs s_sources) (defBody s_sources) (defScope s_sources) .none kV_sources dc_sources pm_sources an_sources cd_sources ct_sources), sl_sources⟩)
    (c_sources : PySem.W.codeIn K cd_sources "sources" = true)
    (k_sources : PySem.W.keepIn K (.ref sources) = true)
    (a_solved_cube : PySem.W.nsIn K mainGlobals "solved_cube" = some (some (.ref solved_cube)))
    (l_solved_cube : K.lookup solved_cube = some ⟨oc_solved_cube, od_solved_cube, .func (PySem.W.fnOf "solved_cube" "solved_cube" (defArgs s_solved_cube) (defBody s_solved_cube) (defScope s_solved_cube) .none kV_solved_cube dc_solved_cube pm_solved_cube an_solved_cube cd_solved_cube ct_solved_cube), sl_solved_cube⟩)
    (c_solved_cube : PySem.W.codeIn K cd_solved_cube "solved_cube" = true)
    (k_solved_cube : PySem.W.keepIn K (.ref solved_cube) = true)
    (a_is_solved : PySem.W.nsIn K mainGlobals "is_solved" = some (some (.ref is_solved)))
    (l_is_solved : K.lookup is_solved = some ⟨oc_is_solved, od_is_solved, .func (PySem.W.fnOf "is_solved" "is_solved" (defArgs s_is_solved) (defBody s_is_solved) (defScope s_is_solved) .none kV_is_solved dc_is_solved pm_is_solved an_is_solved cd_is_solved ct_is_solved), sl_is_solved⟩)
    (c_is_solved : PySem.W.codeIn K cd_is_solved "is_solved" = true)
    (k_is_solved : PySem.W.keepIn K (.ref is_solved) = true)
    (a_are_moves : PySem.W.nsIn K mainGlobals "are_moves" = some (some (.ref are_moves)))
    (l_are_moves : K.lookup are_moves = some ⟨oc_are_moves, od_are_moves, .func (PySem.W.fnOf "are_moves" "are_moves" (defArgs s_are_moves) (defBody s_are_moves) (defScope s_are_moves) .none kV_are_moves dc_are_moves pm_are_moves an_are_moves cd_are_moves ct_are_moves), sl_are_moves⟩)
    (c_are_moves : PySem.W.codeIn K cd_are_moves "are_moves" = true)
    (k_are_moves : PySem.W.keepIn K (.ref are_moves) = true)
    (a_third : PySem.W.nsIn K mainGlobals "third" = some (some (.ref third)))
    (l_third : K.lookup third = some ⟨oc_third, od_third, .func (PySem.W.fnOf "third" "third" (defArgs s_third) (defBody s_third) (defScope s_third) .none kV_third dc_third pm_third an_third cd_third ct_third), sl_third⟩)
    (c_third : PySem.W.codeIn K cd_third "third" = true)
    (k_third : PySem.W.keepIn K (.ref third) = true)
    (a_average : PySem.W.nsIn K mainGlobals "average" = some (some (.ref average)))
    (l_average : K.lookup average = some ⟨oc_average, od_average, .func (PySem.W.fnOf "average" "average" (defArgs s_average) (defBody s_average) (defScope s_average) .none kV_average dc_average pm_average an_average cd_average ct_average), sl_average⟩)
    (c_average : PySem.W.codeIn K cd_average "average" = true)
    (k_average : PySem.W.keepIn K (.ref average) = true)
    (a_behind : PySem.W.nsIn K mainGlobals "behind" = some (some (.ref behind)))
    (l_behind : K.lookup behind = some ⟨oc_behind, od_behind, .func (PySem.W.fnOf "behind" "behind" (defArgs s_behind) (defBody s_behind) (defScope s_behind) .none kV_behind dc_behind pm_behind an_behind cd_behind ct_behind), sl_behind⟩)
    (c_behind : PySem.W.codeIn K cd_behind "behind" = true)
    (k_behind : PySem.W.keepIn K (.ref behind) = true)
    (a_solution_count : PySem.W.nsIn K mainGlobals "solution_count" = some (some (.ref solution_count)))
    (l_solution_count : K.lookup solution_count = some ⟨oc_solution_count, od_solution_count, .func (PySem.W.fnOf "solution_count" "solution_count" (defArgs s_solution_count) (defBody s_solution_count) (defScope s_solution_count) .none kV_solution_count dc_solution_count pm_solution_count an_solution_count cd_solution_count ct_solution_count), sl_solution_count⟩)
    (c_solution_count : PySem.W.codeIn K cd_solution_count "solution_count" = true)
    (k_solution_count : PySem.W.keepIn K (.ref solution_count) = true)
    (a_must : PySem.W.nsIn K mainGlobals "must" = some (some (.ref must)))
    (l_must : K.lookup must = some ⟨oc_must, od_must, .func (PySem.W.fnOf "must" "must" (defArgs s_must) (defBody s_must) (defScope s_must) .none kV_must dc_must pm_must an_must cd_must ct_must), sl_must⟩)
    (c_must : PySem.W.codeIn K cd_must "must" = true)
    (k_must : PySem.W.keepIn K (.ref must) = true)
    (a_is_within : PySem.W.nsIn K mainGlobals "is_within" = some (some (.ref is_within)))
    (l_is_within : K.lookup is_within = some ⟨oc_is_within, od_is_within, .func (PySem.W.fnOf "is_within" "is_within" (defArgs s_is_within) (defBody s_is_within) (defScope s_is_within) .none kV_is_within dc_is_within pm_is_within an_is_within cd_is_within ct_is_within), sl_is_within⟩)
    (c_is_within : PySem.W.codeIn K cd_is_within "is_within" = true)
    (k_is_within : PySem.W.keepIn K (.ref is_within) = true)
    (a_begin : PySem.W.nsIn K mainGlobals "begin" = some (some (.ref begin)))
    (l_begin : K.lookup begin = some ⟨oc_begin, od_begin, .func (PySem.W.fnOf "begin" "begin" (defArgs s_begin) (defBody s_begin) (defScope s_begin) .none kV_begin dc_begin pm_begin an_begin cd_begin ct_begin), sl_begin⟩)
    (c_begin : PySem.W.codeIn K cd_begin "begin" = true)
    (k_begin : PySem.W.keepIn K (.ref begin) = true)
    (a_begin_round : PySem.W.nsIn K mainGlobals "begin_round" = some (some (.ref begin_round)))
    (l_begin_round : K.lookup begin_round = some ⟨oc_begin_round, od_begin_round, .func (PySem.W.fnOf "begin_round" "begin_round" (defArgs s_begin_round) (defBody s_begin_round) (defScope s_begin_round) .none kV_begin_round dc_begin_round pm_begin_round an_begin_round cd_begin_round ct_begin_round), sl_begin_round⟩)
    (c_begin_round : PySem.W.codeIn K cd_begin_round "begin_round" = true)
    (k_begin_round : PySem.W.keepIn K (.ref begin_round) = true)
    (a_scramble : PySem.W.nsIn K mainGlobals "scramble" = some (some (.ref scramble)))
    (l_scramble : K.lookup scramble = some ⟨oc_scramble, od_scramble, .func (PySem.W.fnOf "scramble" "scramble" (defArgs s_scramble) (defBody s_scramble) (defScope s_scramble) .none kV_scramble dc_scramble pm_scramble an_scramble cd_scramble ct_scramble), sl_scramble⟩)
    (c_scramble : PySem.W.codeIn K cd_scramble "scramble" = true)
    (k_scramble : PySem.W.keepIn K (.ref scramble) = true)
    (a_must_attempt : PySem.W.nsIn K mainGlobals "must_attempt" = some (some (.ref must_attempt)))
    (l_must_attempt : K.lookup must_attempt = some ⟨oc_must_attempt, od_must_attempt, .func (PySem.W.fnOf "must_attempt" "must_attempt" (defArgs s_must_attempt) (defBody s_must_attempt) (defScope s_must_attempt) .none kV_must_attempt dc_must_attempt pm_must_attempt an_must_attempt cd_must_attempt ct_must_attempt), sl_must_attempt⟩)
    (c_must_attempt : PySem.W.codeIn K cd_must_attempt "must_attempt" = true)
    (k_must_attempt : PySem.W.keepIn K (.ref must_attempt) = true)
    (a_put_attempt : PySem.W.nsIn K mainGlobals "put_attempt" = some (some (.ref put_attempt)))
    (l_put_attempt : K.lookup put_attempt = some ⟨oc_put_attempt, od_put_attempt, .func (PySem.W.fnOf "put_attempt" "put_attempt" (defArgs s_put_attempt) (defBody s_put_attempt) (defScope s_put_attempt) .none kV_put_attempt dc_put_attempt pm_put_attempt an_put_attempt cd_put_attempt ct_put_attempt), sl_put_attempt⟩)
    (c_put_attempt : PySem.W.codeIn K cd_put_attempt "put_attempt" = true)
    (k_put_attempt : PySem.W.keepIn K (.ref put_attempt) = true)
    (a_time : PySem.W.nsIn K mainGlobals "time" = some (some (.ref time)))
    (l_time : K.lookup time = some ⟨oc_time, od_time, .func (PySem.W.fnOf "time" "time" (defArgs s_time) (defBody s_time) (defScope s_time) .none kV_time dc_time pm_time an_time cd_time ct_time), sl_time⟩)
    (c_time : PySem.W.codeIn K cd_time "time" = true)
    (k_time : PySem.W.keepIn K (.ref time) = true)
    (a_no_time : PySem.W.nsIn K mainGlobals "no_time" = some (some (.ref no_time)))
    (l_no_time : K.lookup no_time = some ⟨oc_no_time, od_no_time, .func (PySem.W.fnOf "no_time" "no_time" (defArgs s_no_time) (defBody s_no_time) (defScope s_no_time) .none kV_no_time dc_no_time pm_no_time an_no_time cd_no_time ct_no_time), sl_no_time⟩)
    (c_no_time : PySem.W.codeIn K cd_no_time "no_time" = true)
    (k_no_time : PySem.W.keepIn K (.ref no_time) = true)
    (a_solution : PySem.W.nsIn K mainGlobals "solution" = some (some (.ref solution)))
    (l_solution : K.lookup solution = some ⟨oc_solution, od_solution, .func (PySem.W.fnOf "solution" "solution" (defArgs s_solution) (defBody s_solution) (defScope s_solution) .none kV_solution dc_solution pm_solution an_solution cd_solution ct_solution), sl_solution⟩)
    (c_solution : PySem.W.codeIn K cd_solution "solution" = true)
    (k_solution : PySem.W.keepIn K (.ref solution) = true)
    (a_card : PySem.W.nsIn K mainGlobals "card" = some (some (.ref card)))
    (l_card : K.lookup card = some ⟨oc_card, od_card, .func (PySem.W.fnOf "card" "card" (defArgs s_card) (defBody s_card) (defScope s_card) .none kV_card dc_card pm_card an_card cd_card ct_card), sl_card⟩)
    (c_card : PySem.W.codeIn K cd_card "card" = true)
    (k_card : PySem.W.keepIn K (.ref card) = true)
    (a_order : PySem.W.nsIn K mainGlobals "order" = some (some (.ref order)))
    (l_order : K.lookup order = some ⟨oc_order, od_order, .func (PySem.W.fnOf "order" "order" (defArgs s_order) (defBody s_order) (defScope s_order) .none kV_order dc_order pm_order an_order cd_order ct_order), sl_order⟩)
    (c_order : PySem.W.codeIn K cd_order "order" = true)
    (k_order : PySem.W.keepIn K (.ref order) = true)
    (a_cube : PySem.W.nsIn K mainGlobals "cube" = some (some (.ref cube)))
    (l_cube : K.lookup cube = some ⟨oc_cube, od_cube, .func (PySem.W.fnOf "cube" "cube" (defArgs s_cube) (defBody s_cube) (defScope s_cube) .none kV_cube dc_cube pm_cube an_cube cd_cube ct_cube), sl_cube⟩)
    (c_cube : PySem.W.codeIn K cd_cube "cube" = true)
    (k_cube : PySem.W.keepIn K (.ref cube) = true)
    (a_solves : PySem.W.nsIn K mainGlobals "solves" = some (some (.ref solves)))
    (l_solves : K.lookup solves = some ⟨oc_solves, od_solves, .func (PySem.W.fnOf "solves" "solves" (defArgs s_solves) (defBody s_solves) (defScope s_solves) .none kV_solves dc_solves pm_solves an_solves cd_solves ct_solves), sl_solves⟩)
    (c_solves : PySem.W.codeIn K cd_solves "solves" = true)
    (k_solves : PySem.W.keepIn K (.ref solves) = true)
    (a_of_rounds : PySem.W.nsIn K mainGlobals "of_rounds" = some (some (.ref of_rounds)))
    (l_of_rounds : K.lookup of_rounds = some ⟨oc_of_rounds, od_of_rounds, .func (PySem.W.fnOf "of_rounds" "of_rounds" (defArgs s_of_rounds) (defBody s_of_rounds) (defScope s_of_rounds) .none kV_of_rounds dc_of_rounds pm_of_rounds an_of_rounds cd_of_rounds ct_of_rounds), sl_of_rounds⟩)
    (c_of_rounds : PySem.W.codeIn K cd_of_rounds "of_rounds" = true)
    (k_of_rounds : PySem.W.keepIn K (.ref of_rounds) = true)
    (a_of_cards : PySem.W.nsIn K mainGlobals "of_cards" = some (some (.ref of_cards)))
    (l_of_cards : K.lookup of_cards = some ⟨oc_of_cards, od_of_cards, .func (PySem.W.fnOf "of_cards" "of_cards" (defArgs s_of_cards) (defBody s_of_cards) (defScope s_of_cards) .none kV_of_cards dc_of_cards pm_of_cards an_of_cards cd_of_cards ct_of_cards), sl_of_cards⟩)
    (c_of_cards : PySem.W.codeIn K cd_of_cards "of_cards" = true)
    (k_of_cards : PySem.W.keepIn K (.ref of_cards) = true)
    (a_answered : PySem.W.nsIn K mainGlobals "answered" = some (some (.ref answered)))
    (l_answered : K.lookup answered = some ⟨oc_answered, od_answered, .func (PySem.W.fnOf "answered" "answered" (defArgs s_answered) (defBody s_answered) (defScope s_answered) .none kV_answered dc_answered pm_answered an_answered cd_answered ct_answered), sl_answered⟩)
    (c_answered : PySem.W.codeIn K cd_answered "answered" = true)
    (k_answered : PySem.W.keepIn K (.ref answered) = true)
    (a_lists_at : PySem.W.nsIn K mainGlobals "lists_at" = some (some (.ref lists_at)))
    (l_lists_at : K.lookup lists_at = some ⟨oc_lists_at, od_lists_at, .func (PySem.W.fnOf "lists_at" "lists_at" (defArgs s_lists_at) (defBody s_lists_at) (defScope s_lists_at) .none kV_lists_at dc_lists_at pm_lists_at an_lists_at cd_lists_at ct_lists_at), sl_lists_at⟩)
    (c_lists_at : PySem.W.codeIn K cd_lists_at "lists_at" = true)
    (k_lists_at : PySem.W.keepIn K (.ref lists_at) = true)
    (a_answers : PySem.W.nsIn K mainGlobals "answers" = some (some (.ref answers)))
    (l_answers : K.lookup answers = some ⟨oc_answers, od_answers, .func (PySem.W.fnOf "answers" "answers" (defArgs s_answers) (defBody s_answers) (defScope s_answers) .none kV_answers dc_answers pm_answers an_answers cd_answers ct_answers), sl_answers⟩)
    (c_answers : PySem.W.codeIn K cd_answers "answers" = true)
    (k_answers : PySem.W.keepIn K (.ref answers) = true)
    (a_Turns : PySem.W.nsIn K mainGlobals "Turns" = some (some (.ref CTurns)))
    (pg_Turns : PySem.W.plainGet K CTurns Str.empty = true)
    (hd_Turns : PySem.W.hasDictIn K CTurns = true)
    (po_Turns : PySem.W.plainOver K CTurns = true)
    (sa_Turns : PySem.W.findIn K (.ref CTurns) "__setattr__" = some (some (.builtin "object.__setattr__")))
    (mk_Turns : PySem.W.makesIn K CTurns = true)
    (kc_Turns : PySem.W.keepIn K (.ref CTurns) = true)
    (n_Turns_rows : PySem.W.findIn K (.ref CTurns) "rows" = some none)
    (a_Turns_init : PySem.W.findIn K (.ref CTurns) "__init__" = some (some (.ref Turns_init)))
    (i_Turns_init : PySem.W.isFn K (.ref Turns_init) = true)
    (l_Turns_init : K.lookup Turns_init = some ⟨oc_Turns_init, od_Turns_init, .func (PySem.W.fnOf "__init__" "Turns.__init__" (defArgs s_Turns_init) (defBody s_Turns_init) (defScope s_Turns_init) .none kV_Turns_init dc_Turns_init pm_Turns_init an_Turns_init cd_Turns_init ct_Turns_init), sl_Turns_init⟩)
    (c_Turns_init : PySem.W.codeIn K cd_Turns_init "Turns.__init__" = true)
    (k_Turns_init : PySem.W.keepIn K (.ref Turns_init) = true)
    (a_Turns_moved : PySem.W.findIn K (.ref CTurns) "moved" = some (some (.ref Turns_moved)))
    (i_Turns_moved : PySem.W.isFn K (.ref Turns_moved) = true)
    (l_Turns_moved : K.lookup Turns_moved = some ⟨oc_Turns_moved, od_Turns_moved, .func (PySem.W.fnOf "moved" "Turns.moved" (defArgs s_Turns_moved) (defBody s_Turns_moved) (defScope s_Turns_moved) .none kV_Turns_moved dc_Turns_moved pm_Turns_moved an_Turns_moved cd_Turns_moved ct_Turns_moved), sl_Turns_moved⟩)
    (c_Turns_moved : PySem.W.codeIn K cd_Turns_moved "Turns.moved" = true)
    (k_Turns_moved : PySem.W.keepIn K (.ref Turns_moved) = true)
    (a_Round : PySem.W.nsIn K mainGlobals "Round" = some (some (.ref CRound)))
    (pg_Round : PySem.W.plainGet K CRound Str.empty = true)
    (hd_Round : PySem.W.hasDictIn K CRound = true)
    (po_Round : PySem.W.plainOver K CRound = true)
    (sa_Round : PySem.W.findIn K (.ref CRound) "__setattr__" = some (some (.builtin "object.__setattr__")))
    (mk_Round : PySem.W.makesIn K CRound = true)
    (kc_Round : PySem.W.keepIn K (.ref CRound) = true)
    (n_Round_kind : PySem.W.findIn K (.ref CRound) "kind" = some none)
    (n_Round_limit : PySem.W.findIn K (.ref CRound) "limit" = some none)
    (n_Round_cutoff : PySem.W.findIn K (.ref CRound) "cutoff" = some none)
    (n_Round_members : PySem.W.findIn K (.ref CRound) "members" = some none)
    (n_Round_attempts : PySem.W.findIn K (.ref CRound) "attempts" = some none)
    (n_Round_scrambles : PySem.W.findIn K (.ref CRound) "scrambles" = some none)
    (a_Round_init : PySem.W.findIn K (.ref CRound) "__init__" = some (some (.ref Round_init)))
    (i_Round_init : PySem.W.isFn K (.ref Round_init) = true)
    (l_Round_init : K.lookup Round_init = some ⟨oc_Round_init, od_Round_init, .func (PySem.W.fnOf "__init__" "Round.__init__" (defArgs s_Round_init) (defBody s_Round_init) (defScope s_Round_init) .none kV_Round_init dc_Round_init pm_Round_init an_Round_init cd_Round_init ct_Round_init), sl_Round_init⟩)
    (c_Round_init : PySem.W.codeIn K cd_Round_init "Round.__init__" = true)
    (k_Round_init : PySem.W.keepIn K (.ref Round_init) = true)
    (a_Round_may_have : PySem.W.findIn K (.ref CRound) "may_have" = some (some (.ref Round_may_have)))
    (i_Round_may_have : PySem.W.isFn K (.ref Round_may_have) = true)
    (l_Round_may_have : K.lookup Round_may_have = some ⟨oc_Round_may_have, od_Round_may_have, .func (PySem.W.fnOf "may_have" "Round.may_have" (defArgs s_Round_may_have) (defBody s_Round_may_have) (defScope s_Round_may_have) .none kV_Round_may_have dc_Round_may_have pm_Round_may_have an_Round_may_have cd_Round_may_have ct_Round_may_have), sl_Round_may_have⟩)
    (c_Round_may_have : PySem.W.codeIn K cd_Round_may_have "Round.may_have" = true)
    (k_Round_may_have : PySem.W.keepIn K (.ref Round_may_have) = true)
    (a_Round_is_over : PySem.W.findIn K (.ref CRound) "is_over" = some (some (.ref Round_is_over)))
    (i_Round_is_over : PySem.W.isFn K (.ref Round_is_over) = true)
    (l_Round_is_over : K.lookup Round_is_over = some ⟨oc_Round_is_over, od_Round_is_over, .func (PySem.W.fnOf "is_over" "Round.is_over" (defArgs s_Round_is_over) (defBody s_Round_is_over) (defScope s_Round_is_over) .none kV_Round_is_over dc_Round_is_over pm_Round_is_over an_Round_is_over cd_Round_is_over ct_Round_is_over), sl_Round_is_over⟩)
    (c_Round_is_over : PySem.W.codeIn K cd_Round_is_over "Round.is_over" = true)
    (k_Round_is_over : PySem.W.keepIn K (.ref Round_is_over) = true)
    (a_Round_best : PySem.W.findIn K (.ref CRound) "best" = some (some (.ref Round_best)))
    (i_Round_best : PySem.W.isFn K (.ref Round_best) = true)
    (l_Round_best : K.lookup Round_best = some ⟨oc_Round_best, od_Round_best, .func (PySem.W.fnOf "best" "Round.best" (defArgs s_Round_best) (defBody s_Round_best) (defScope s_Round_best) .none kV_Round_best dc_Round_best pm_Round_best an_Round_best cd_Round_best ct_Round_best), sl_Round_best⟩)
    (c_Round_best : PySem.W.codeIn K cd_Round_best "Round.best" = true)
    (k_Round_best : PySem.W.keepIn K (.ref Round_best) = true)
    (a_Round_result : PySem.W.findIn K (.ref CRound) "result" = some (some (.ref Round_result)))
    (i_Round_result : PySem.W.isFn K (.ref Round_result) = true)
    (l_Round_result : K.lookup Round_result = some ⟨oc_Round_result, od_Round_result, .func (PySem.W.fnOf "result" "Round.result" (defArgs s_Round_result) (defBody s_Round_result) (defScope s_Round_result) .none kV_Round_result dc_Round_result pm_Round_result an_Round_result cd_Round_result ct_Round_result), sl_Round_result⟩)
    (c_Round_result : PySem.W.codeIn K cd_Round_result "Round.result" = true)
    (k_Round_result : PySem.W.keepIn K (.ref Round_result) = true)
    (a_Round_rank : PySem.W.findIn K (.ref CRound) "rank" = some (some (.ref Round_rank)))
    (i_Round_rank : PySem.W.isFn K (.ref Round_rank) = true)
    (l_Round_rank : K.lookup Round_rank = some ⟨oc_Round_rank, od_Round_rank, .func (PySem.W.fnOf "rank" "Round.rank" (defArgs s_Round_rank) (defBody s_Round_rank) (defScope s_Round_rank) .none kV_Round_rank dc_Round_rank pm_Round_rank an_Round_rank cd_Round_rank ct_Round_rank), sl_Round_rank⟩)
    (c_Round_rank : PySem.W.codeIn K cd_Round_rank "Round.rank" = true)
    (k_Round_rank : PySem.W.keepIn K (.ref Round_rank) = true)
    (a_Round_order : PySem.W.findIn K (.ref CRound) "order" = some (some (.ref Round_order)))
    (i_Round_order : PySem.W.isFn K (.ref Round_order) = true)
    (l_Round_order : K.lookup Round_order = some ⟨oc_Round_order, od_Round_order, .func (PySem.W.fnOf "order" "Round.order" (defArgs s_Round_order) (defBody s_Round_order) (defScope s_Round_order) .none kV_Round_order dc_Round_order pm_Round_order an_Round_order (.ref cOrder) ct_Round_order), sl_Round_order⟩)
    (c_Round_order : PySem.W.codeIn K (.ref cOrder) "Round.order" = true)
    (k_Round_order : PySem.W.keepIn K (.ref Round_order) = true)
    (a_Round_timed : PySem.W.findIn K (.ref CRound) "timed" = some (some (.ref Round_timed)))
    (i_Round_timed : PySem.W.isFn K (.ref Round_timed) = true)
    (l_Round_timed : K.lookup Round_timed = some ⟨oc_Round_timed, od_Round_timed, .func (PySem.W.fnOf "timed" "Round.timed" (defArgs s_Round_timed) (defBody s_Round_timed) (defScope s_Round_timed) .none kV_Round_timed dc_Round_timed pm_Round_timed an_Round_timed cd_Round_timed ct_Round_timed), sl_Round_timed⟩)
    (c_Round_timed : PySem.W.codeIn K cd_Round_timed "Round.timed" = true)
    (k_Round_timed : PySem.W.keepIn K (.ref Round_timed) = true)
    (a_Meet : PySem.W.nsIn K mainGlobals "Meet" = some (some (.ref CMeet)))
    (pg_Meet : PySem.W.plainGet K CMeet Str.empty = true)
    (hd_Meet : PySem.W.hasDictIn K CMeet = true)
    (po_Meet : PySem.W.plainOver K CMeet = true)
    (sa_Meet : PySem.W.findIn K (.ref CMeet) "__setattr__" = some (some (.builtin "object.__setattr__")))
    (mk_Meet : PySem.W.makesIn K CMeet = true)
    (kc_Meet : PySem.W.keepIn K (.ref CMeet) = true)
    (n_Meet_turns : PySem.W.findIn K (.ref CMeet) "turns" = some none)
    (n_Meet_competitors : PySem.W.findIn K (.ref CMeet) "competitors" = some none)
    (n_Meet_rounds : PySem.W.findIn K (.ref CMeet) "rounds" = some none)
    (n_Meet_current : PySem.W.findIn K (.ref CMeet) "current" = some none)
    (a_Meet_init : PySem.W.findIn K (.ref CMeet) "__init__" = some (some (.ref Meet_init)))
    (i_Meet_init : PySem.W.isFn K (.ref Meet_init) = true)
    (l_Meet_init : K.lookup Meet_init = some ⟨oc_Meet_init, od_Meet_init, .func (PySem.W.fnOf "__init__" "Meet.__init__" (defArgs s_Meet_init) (defBody s_Meet_init) (defScope s_Meet_init) .none kV_Meet_init dc_Meet_init pm_Meet_init an_Meet_init cd_Meet_init ct_Meet_init), sl_Meet_init⟩)
    (c_Meet_init : PySem.W.codeIn K cd_Meet_init "Meet.__init__" = true)
    (k_Meet_init : PySem.W.keepIn K (.ref Meet_init) = true)
    (hdO : PySem.W.codeHdIn K cOrder 142 = true)
    (a_Refused : PySem.W.nsIn K mainGlobals "Refused" = some (some (.ref CRefused)))
    (xR : K.lookup CRefused = some (excClassObj nmR qR CRefused NR bsR [.type "ValueError", .type "Exception", .type "BaseException", .type "object"] true snR subR abR colR ddR r0 r1 r2 r3 r5 "ValueError.__new__"))
    (saR : PySem.W.findIn K (.ref CRefused) "__setattr__" = some (some (.builtin "object.__setattr__")))
    (gaR : PySem.W.findIn K (.ref CRefused) "__getattribute__" = some (some (.builtin "BaseException.__getattribute__")))
    (ggR : PySem.W.findIn K (.ref CRefused) "__getattr__" = some none)
    (nR : PySem.W.findIn K (.ref CRefused) "answer" = some none)
    (yR : PySem.W.findIn K (.ref CRefused) "__init__" = some (some (.ref Refused_init)))
    (zR : PySem.W.typeIn K (.ref Refused_init) = some (.type "function"))
    (l_Refused_init : K.lookup Refused_init = some ⟨oc_Refused_init, od_Refused_init, .func (PySem.W.fnOf "__init__" "Refused.__init__" (defArgs s_Refused_init) (defBody s_Refused_init) (defScope s_Refused_init) .none kV_Refused_init dc_Refused_init pm_Refused_init an_Refused_init cd_Refused_init ct_Refused_init), sl_Refused_init⟩)
    (c_Refused_init : PySem.W.codeIn K cd_Refused_init "Refused.__init__" = true)
    (k_Refused_init : PySem.W.keepIn K (.ref Refused_init) = true)
    (kR : PySem.W.keepIn K (.ref CRefused) = true)
    (eR : PySem.W.subIn K (.ref CRefused) (.type "BaseException") = some true)
    (tR : PySem.W.typeIn K (.ref CRefused) = some (.type "type"))
    (hR : PySem.W.hasDictIn K CRefused = true)
    (iR : PySem.W.isClsIn K CRefused = true)
    (sR : PySem.W.subIn K (.ref CRefused) (.ref CRefused) = some true)
    (vR : PySem.W.findCls K (.type "ValueError") (.type "type") "__init__" = some (.val (.builtin "ValueError.__init__")))
    (a_NORMALS : PySem.W.nsIn K mainGlobals "NORMALS" = some (some (.ref tNORMALS)))
    (lT_NORMALS : K.lookup tNORMALS = some ⟨.type "tuple", ddT_NORMALS, .seq #[.ref n0, .ref n1, .ref n2, .ref n3, .ref n4, .ref n5] nT_NORMALS, slT_NORMALS⟩)
    (lT_n0 : K.lookup n0 = some ⟨.type "tuple", ddT_n0, .seq #[.int 0 u0_n0, .int 1 u1_n0, .int 0 u2_n0] nT_n0, slT_n0⟩)
    (lT_n1 : K.lookup n1 = some ⟨.type "tuple", ddT_n1, .seq #[.int 1 u0_n1, .int 0 u1_n1, .int 0 u2_n1] nT_n1, slT_n1⟩)
    (lT_n2 : K.lookup n2 = some ⟨.type "tuple", ddT_n2, .seq #[.int 0 u0_n2, .int 0 u1_n2, .int 1 u2_n2] nT_n2, slT_n2⟩)
    (lT_n3 : K.lookup n3 = some ⟨.type "tuple", ddT_n3, .seq #[.int 0 u0_n3, .int (-1) u1_n3, .int 0 u2_n3] nT_n3, slT_n3⟩)
    (lT_n4 : K.lookup n4 = some ⟨.type "tuple", ddT_n4, .seq #[.int (-1) u0_n4, .int 0 u1_n4, .int 0 u2_n4] nT_n4, slT_n4⟩)
    (lT_n5 : K.lookup n5 = some ⟨.type "tuple", ddT_n5, .seq #[.int 0 u0_n5, .int 0 u1_n5, .int (-1) u2_n5] nT_n5, slT_n5⟩)
    (a_NUMBERS : PySem.W.nsIn K mainGlobals "NUMBERS" = some (some (.ref tNUMBERS)))
    (lT_NUMBERS : K.lookup tNUMBERS = some ⟨.type "tuple", ddT_NUMBERS, .seq #[.int 0 u0_NUMBERS, .int 1 u1_NUMBERS, .int 4 u2_NUMBERS, .int 0 u3_NUMBERS, .int 3 u4_NUMBERS, .int 1 u5_NUMBERS, .int 1 u6_NUMBERS, .int 1 u7_NUMBERS, .int 0 u8_NUMBERS, .int 0 u9_NUMBERS, .int 0 u10_NUMBERS] nT_NUMBERS, slT_NUMBERS⟩)
    (a_LISTS : PySem.W.nsIn K mainGlobals "LISTS" = some (some (.ref tLISTS)))
    (lT_LISTS : K.lookup tLISTS = some ⟨.type "tuple", ddT_LISTS, .seq #[.int 0 u0_LISTS, .int 0 u1_LISTS, .int 0 u2_LISTS, .int 1 u3_LISTS, .int 0 u4_LISTS, .int 0 u5_LISTS, .int 1 u6_LISTS, .int 0 u7_LISTS, .int 0 u8_LISTS, .int 1 u9_LISTS, .int 2 u10_LISTS] nT_LISTS, slT_LISTS⟩)
    (ic_FACES : PySem.W.nsIn K mainGlobals "FACES" = some (some (.int 6 u_FACES)))
    (ic_MOVES : PySem.W.nsIn K mainGlobals "MOVES" = some (some (.int 18 u_MOVES)))
    (ic_STICKERS : PySem.W.nsIn K mainGlobals "STICKERS" = some (some (.int 54 u_STICKERS)))
    (ic_AVERAGE : PySem.W.nsIn K mainGlobals "AVERAGE" = some (some (.int 0 u_AVERAGE)))
    (ic_BEST : PySem.W.nsIn K mainGlobals "BEST" = some (some (.int 2 u_BEST)))
    (ic_FEWEST : PySem.W.nsIn K mainGlobals "FEWEST" = some (some (.int 3 u_FEWEST)))
    (ic_NONE : PySem.W.nsIn K mainGlobals "NONE" = some (some (.int (-1) u_NONE)))
    (ic_PENALTY : PySem.W.nsIn K mainGlobals "PENALTY" = some (some (.int 200 u_PENALTY)))
    (ic_FOR_MOVE : PySem.W.nsIn K mainGlobals "FOR_MOVE" = some (some (.int 100 u_FOR_MOVE)))
    (ic_MOST_MOVES_rounds : PySem.W.nsIn K mainGlobals "MOST_MOVES_rounds" = some (some (.int 80 u_MOST_MOVES_rounds)))
    (ic_MOST_COMPETITORS : PySem.W.nsIn K mainGlobals "MOST_COMPETITORS" = some (some (.int 40 u_MOST_COMPETITORS)))
    (ic_MOST_TIME : PySem.W.nsIn K mainGlobals "MOST_TIME" = some (some (.int 360000 u_MOST_TIME)))
    (ic_MOST_HUNDREDTHS : PySem.W.nsIn K mainGlobals "MOST_HUNDREDTHS" = some (some (.int 1000000 u_MOST_HUNDREDTHS)))
    (ic_MOST_PENALTIES : PySem.W.nsIn K mainGlobals "MOST_PENALTIES" = some (some (.int 9 u_MOST_PENALTIES)))
    (ic_MOST_SCRAMBLE : PySem.W.nsIn K mainGlobals "MOST_SCRAMBLE" = some (some (.int 30 u_MOST_SCRAMBLE)))
    (ic_MOST_SOLUTION : PySem.W.nsIn K mainGlobals "MOST_SOLUTION" = some (some (.int 90 u_MOST_SOLUTION)))
    (ic_MOST_MOVES_desks : PySem.W.nsIn K mainGlobals "MOST_MOVES_desks" = some (some (.int 60 u_MOST_MOVES_desks)))
    (ic_SCRAMBLES : PySem.W.nsIn K mainGlobals "SCRAMBLES" = some (some (.int 3 u_SCRAMBLES)))
    (b_range : PySem.W.nsIn K mainGlobals "range" = some none)
    (b_len : PySem.W.nsIn K mainGlobals "len" = some none)
    (b_list : PySem.W.nsIn K mainGlobals "list" = some none)
    (b_enumerate : PySem.W.nsIn K mainGlobals "enumerate" = some none)
    (b_set : PySem.W.nsIn K mainGlobals "set" = some none)
    (b_sorted : PySem.W.nsIn K mainGlobals "sorted" = some none)
    (b_min : PySem.W.nsIn K mainGlobals "min" = some none)
    (b_sum : PySem.W.nsIn K mainGlobals "sum" = some none)
    (b_int : PySem.W.nsIn K mainGlobals "int" = some none)
    (b_ValueError : PySem.W.nsIn K mainGlobals "ValueError" = some none)
    : FCase P w K mg fa h := by
  have e := hfa.symm.trans (PySem.W.mg_of X G a_answers)
  cases e
  have T : Txt K mg { place_of := place_of, all_stickers := all_stickers, inner := inner, turned := turned, sources := sources, solved_cube := solved_cube, is_solved := is_solved, are_moves := are_moves, third := third, average := average, behind := behind, solution_count := solution_count, must := must, is_within := is_within, begin := begin, begin_round := begin_round, scramble := scramble, must_attempt := must_attempt, put_attempt := put_attempt, time := time, no_time := no_time, solution := solution, card := card, order := order, cube := cube, solves := solves, of_rounds := of_rounds, of_cards := of_cards, answered := answered, lists_at := lists_at, answers := fa, Turns_init := Turns_init, Turns_moved := Turns_moved, Round_init := Round_init, Round_may_have := Round_may_have, Round_is_over := Round_is_over, Round_best := Round_best, Round_result := Round_result, Round_rank := Round_rank, Round_order := Round_order, Round_timed := Round_timed, Meet_init := Meet_init, Refused_init := Refused_init, CTurns := CTurns, CRound := CRound, CMeet := CMeet, CRefused := CRefused, tNORMALS := tNORMALS, n0 := n0, n1 := n1, n2 := n2, n3 := n3, n4 := n4, n5 := n5, tNUMBERS := tNUMBERS, tLISTS := tLISTS, cOrder := cOrder, pOrder := 142 } :=
    { g_place_of := PySem.W.mg_of X G a_place_of,
      f_place_of := (FunAt.mk' (st := s_place_of) l_place_of c_place_of k_place_of fun _ _ _ _ _ _ us hl => match us, hl with | [_, _, _], _ => rfl),
      g_all_stickers := PySem.W.mg_of X G a_all_stickers,
      f_all_stickers := (FunAt.mk' (st := s_all_stickers) l_all_stickers c_all_stickers k_all_stickers fun _ _ _ _ _ _ us hl => match us, hl with | [], _ => rfl),
      g_inner := PySem.W.mg_of X G a_inner,
      f_inner := (FunAt.mk' (st := s_inner) l_inner c_inner k_inner fun _ _ _ _ _ _ us hl => match us, hl with | [_, _], _ => rfl),
      g_turned := PySem.W.mg_of X G a_turned,
      f_turned := (FunAt.mk' (st := s_turned) l_turned c_turned k_turned fun _ _ _ _ _ _ us hl => match us, hl with | [_, _], _ => rfl),
      g_sources := PySem.W.mg_of X G a_sources,
      f_sources := (FunAt.mk' (st := s_sources) l_sources c_sources k_sources fun _ _ _ _ _ _ us hl => match us, hl with | [_, _], _ => rfl),
      g_solved_cube := PySem.W.mg_of X G a_solved_cube,
      f_solved_cube := (FunAt.mk' (st := s_solved_cube) l_solved_cube c_solved_cube k_solved_cube fun _ _ _ _ _ _ us hl => match us, hl with | [], _ => rfl),
      g_is_solved := PySem.W.mg_of X G a_is_solved,
      f_is_solved := (FunAt.mk' (st := s_is_solved) l_is_solved c_is_solved k_is_solved fun _ _ _ _ _ _ us hl => match us, hl with | [_], _ => rfl),
      g_are_moves := PySem.W.mg_of X G a_are_moves,
      f_are_moves := (FunAt.mk' (st := s_are_moves) l_are_moves c_are_moves k_are_moves fun _ _ _ _ _ _ us hl => match us, hl with | [_, _], _ => rfl),
      g_third := PySem.W.mg_of X G a_third,
      f_third := (FunAt.mk' (st := s_third) l_third c_third k_third fun _ _ _ _ _ _ us hl => match us, hl with | [_], _ => rfl),
      g_average := PySem.W.mg_of X G a_average,
      f_average := (FunAt.mk' (st := s_average) l_average c_average k_average fun _ _ _ _ _ _ us hl => match us, hl with | [_], _ => rfl),
      g_behind := PySem.W.mg_of X G a_behind,
      f_behind := (FunAt.mk' (st := s_behind) l_behind c_behind k_behind fun _ _ _ _ _ _ us hl => match us, hl with | [_], _ => rfl),
      g_solution_count := PySem.W.mg_of X G a_solution_count,
      f_solution_count := (FunAt.mk' (st := s_solution_count) l_solution_count c_solution_count k_solution_count fun _ _ _ _ _ _ us hl => match us, hl with | [_, _], _ => rfl),
      g_must := PySem.W.mg_of X G a_must,
      f_must := (FunAt.mk' (st := s_must) l_must c_must k_must fun _ _ _ _ _ _ us hl => match us, hl with | [_, _], _ => rfl),
      g_is_within := PySem.W.mg_of X G a_is_within,
      f_is_within := (FunAt.mk' (st := s_is_within) l_is_within c_is_within k_is_within fun _ _ _ _ _ _ us hl => match us, hl with | [_, _, _], _ => rfl),
      g_begin := PySem.W.mg_of X G a_begin,
      f_begin := (FunAt.mk' (st := s_begin) l_begin c_begin k_begin fun _ _ _ _ _ _ us hl => match us, hl with | [_, _], _ => rfl),
      g_begin_round := PySem.W.mg_of X G a_begin_round,
      f_begin_round := (FunAt.mk' (st := s_begin_round) l_begin_round c_begin_round k_begin_round fun _ _ _ _ _ _ us hl => match us, hl with | [_, _, _, _, _], _ => rfl),
      g_scramble := PySem.W.mg_of X G a_scramble,
      f_scramble := (FunAt.mk' (st := s_scramble) l_scramble c_scramble k_scramble fun _ _ _ _ _ _ us hl => match us, hl with | [_, _], _ => rfl),
      g_must_attempt := PySem.W.mg_of X G a_must_attempt,
      f_must_attempt := (FunAt.mk' (st := s_must_attempt) l_must_attempt c_must_attempt k_must_attempt fun _ _ _ _ _ _ us hl => match us, hl with | [_, _], _ => rfl),
      g_put_attempt := PySem.W.mg_of X G a_put_attempt,
      f_put_attempt := (FunAt.mk' (st := s_put_attempt) l_put_attempt c_put_attempt k_put_attempt fun _ _ _ _ _ _ us hl => match us, hl with | [_, _, _], _ => rfl),
      g_time := PySem.W.mg_of X G a_time,
      f_time := (FunAt.mk' (st := s_time) l_time c_time k_time fun _ _ _ _ _ _ us hl => match us, hl with | [_, _, _, _], _ => rfl),
      g_no_time := PySem.W.mg_of X G a_no_time,
      f_no_time := (FunAt.mk' (st := s_no_time) l_no_time c_no_time k_no_time fun _ _ _ _ _ _ us hl => match us, hl with | [_, _], _ => rfl),
      g_solution := PySem.W.mg_of X G a_solution,
      f_solution := (FunAt.mk' (st := s_solution) l_solution c_solution k_solution fun _ _ _ _ _ _ us hl => match us, hl with | [_, _, _], _ => rfl),
      g_card := PySem.W.mg_of X G a_card,
      f_card := (FunAt.mk' (st := s_card) l_card c_card k_card fun _ _ _ _ _ _ us hl => match us, hl with | [_, _], _ => rfl),
      g_order := PySem.W.mg_of X G a_order,
      f_order := (FunAt.mk' (st := s_order) l_order c_order k_order fun _ _ _ _ _ _ us hl => match us, hl with | [_], _ => rfl),
      g_cube := PySem.W.mg_of X G a_cube,
      f_cube := (FunAt.mk' (st := s_cube) l_cube c_cube k_cube fun _ _ _ _ _ _ us hl => match us, hl with | [_, _], _ => rfl),
      g_solves := PySem.W.mg_of X G a_solves,
      f_solves := (FunAt.mk' (st := s_solves) l_solves c_solves k_solves fun _ _ _ _ _ _ us hl => match us, hl with | [_, _, _], _ => rfl),
      g_of_rounds := PySem.W.mg_of X G a_of_rounds,
      f_of_rounds := (FunAt.mk' (st := s_of_rounds) l_of_rounds c_of_rounds k_of_rounds fun _ _ _ _ _ _ us hl => match us, hl with | [_, _, _, _], _ => rfl),
      g_of_cards := PySem.W.mg_of X G a_of_cards,
      f_of_cards := (FunAt.mk' (st := s_of_cards) l_of_cards c_of_cards k_of_cards fun _ _ _ _ _ _ us hl => match us, hl with | [_, _, _, _], _ => rfl),
      g_answered := PySem.W.mg_of X G a_answered,
      f_answered := (FunAt.mk' (st := s_answered) l_answered c_answered k_answered fun _ _ _ _ _ _ us hl => match us, hl with | [_, _, _, _], _ => rfl),
      g_lists_at := PySem.W.mg_of X G a_lists_at,
      f_lists_at := (FunAt.mk' (st := s_lists_at) l_lists_at c_lists_at k_lists_at fun _ _ _ _ _ _ us hl => match us, hl with | [_, _, _], _ => rfl),
      g_answers := PySem.W.mg_of X G a_answers,
      f_answers := (FunAt.mk' (st := s_answers) l_answers c_answers k_answers fun _ _ _ _ _ _ us hl => match us, hl with | [_], _ => rfl),
      g_Turns := PySem.W.mg_of X G a_Turns,
      c_Turns := ⟨pg_Turns, hd_Turns, po_Turns, sa_Turns⟩,
      n_Turns_rows := n_Turns_rows,
      f_Turns_init := (FunAt.mk' (st := s_Turns_init) l_Turns_init c_Turns_init k_Turns_init fun _ _ _ _ _ _ us hl => match us, hl with | [_], _ => rfl),
      k_Turns := ⟨mk_Turns, a_Turns_init, i_Turns_init, kc_Turns⟩,
      f_Turns_moved := (FunAt.mk' (st := s_Turns_moved) l_Turns_moved c_Turns_moved k_Turns_moved fun _ _ _ _ _ _ us hl => match us, hl with | [_, _, _], _ => rfl),
      m_Turns_moved := ⟨a_Turns_moved, i_Turns_moved, k_Turns_moved⟩,
      g_Round := PySem.W.mg_of X G a_Round,
      c_Round := ⟨pg_Round, hd_Round, po_Round, sa_Round⟩,
      n_Round_kind := n_Round_kind,
      n_Round_limit := n_Round_limit,
      n_Round_cutoff := n_Round_cutoff,
      n_Round_members := n_Round_members,
      n_Round_attempts := n_Round_attempts,
      n_Round_scrambles := n_Round_scrambles,
      f_Round_init := (FunAt.mk' (st := s_Round_init) l_Round_init c_Round_init k_Round_init fun _ _ _ _ _ _ us hl => match us, hl with | [_, _, _, _, _], _ => rfl),
      k_Round := ⟨mk_Round, a_Round_init, i_Round_init, kc_Round⟩,
      f_Round_may_have := (FunAt.mk' (st := s_Round_may_have) l_Round_may_have c_Round_may_have k_Round_may_have fun _ _ _ _ _ _ us hl => match us, hl with | [_, _], _ => rfl),
      m_Round_may_have := ⟨a_Round_may_have, i_Round_may_have, k_Round_may_have⟩,
      f_Round_is_over := (FunAt.mk' (st := s_Round_is_over) l_Round_is_over c_Round_is_over k_Round_is_over fun _ _ _ _ _ _ us hl => match us, hl with | [_], _ => rfl),
      m_Round_is_over := ⟨a_Round_is_over, i_Round_is_over, k_Round_is_over⟩,
      f_Round_best := (FunAt.mk' (st := s_Round_best) l_Round_best c_Round_best k_Round_best fun _ _ _ _ _ _ us hl => match us, hl with | [_, _], _ => rfl),
      m_Round_best := ⟨a_Round_best, i_Round_best, k_Round_best⟩,
      f_Round_result := (FunAt.mk' (st := s_Round_result) l_Round_result c_Round_result k_Round_result fun _ _ _ _ _ _ us hl => match us, hl with | [_, _], _ => rfl),
      m_Round_result := ⟨a_Round_result, i_Round_result, k_Round_result⟩,
      f_Round_rank := (FunAt.mk' (st := s_Round_rank) l_Round_rank c_Round_rank k_Round_rank fun _ _ _ _ _ _ us hl => match us, hl with | [_, _], _ => rfl),
      m_Round_rank := ⟨a_Round_rank, i_Round_rank, k_Round_rank⟩,
      m_Round_order := ⟨a_Round_order, i_Round_order, k_Round_order⟩,
      f_Round_timed := (FunAt.mk' (st := s_Round_timed) l_Round_timed c_Round_timed k_Round_timed fun _ _ _ _ _ _ us hl => match us, hl with | [_, _, _], _ => rfl),
      m_Round_timed := ⟨a_Round_timed, i_Round_timed, k_Round_timed⟩,
      g_Meet := PySem.W.mg_of X G a_Meet,
      c_Meet := ⟨pg_Meet, hd_Meet, po_Meet, sa_Meet⟩,
      n_Meet_turns := n_Meet_turns,
      n_Meet_competitors := n_Meet_competitors,
      n_Meet_rounds := n_Meet_rounds,
      n_Meet_current := n_Meet_current,
      f_Meet_init := (FunAt.mk' (st := s_Meet_init) l_Meet_init c_Meet_init k_Meet_init fun _ _ _ _ _ _ us hl => match us, hl with | [_], _ => rfl),
      k_Meet := ⟨mk_Meet, a_Meet_init, i_Meet_init, kc_Meet⟩,
      f_Round_order := ⟨_, _, _, _, _, _, _, _, l_Round_order⟩,
      cd_Round_order := c_Round_order,
      kp_Round_order := k_Round_order,
      hd_Round_order := hdO,
      g_Refused := PySem.W.mg_of X G a_Refused,
      f_Refused_init := (FunAt.mk' (st := s_Refused_init) l_Refused_init c_Refused_init k_Refused_init fun _ _ _ _ _ _ us hl => match us, hl with | [_, _, _], _ => rfl),
      o_Refused := ⟨⟨nmR, qR, NR, bsR, _, snR, subR, abR, colR, ddR, r0, r1, r2, r3, r5, xR, by decide +kernel⟩, saR, eR, tR, kR⟩,
      x_Refused := ⟨gaR, ggR, eR, hR⟩,
      n_Refused := nR,
      y_Refused := yR,
      z_Refused := zR,
      e_Refused := exm_self eR iR tR sR,
      v_Refused := vR,
      g_NORMALS := PySem.W.mg_of X G a_NORMALS,
      t_NORMALS := fun _ => .inr ⟨_, _, _, lT_NORMALS, rfl, rfl, (by show 6 ≤ sizeLine; decide), (.cons rfl (.cons rfl (.cons rfl (.cons rfl (.cons rfl (.cons rfl .nil))))))⟩,
      t_n0 := fun _ => .inr ⟨_, _, _, lT_n0, rfl, rfl, (by show 3 ≤ sizeLine; decide), (.cons ⟨_, rfl⟩ (.cons ⟨_, rfl⟩ (.cons ⟨_, rfl⟩ .nil)))⟩,
      t_n1 := fun _ => .inr ⟨_, _, _, lT_n1, rfl, rfl, (by show 3 ≤ sizeLine; decide), (.cons ⟨_, rfl⟩ (.cons ⟨_, rfl⟩ (.cons ⟨_, rfl⟩ .nil)))⟩,
      t_n2 := fun _ => .inr ⟨_, _, _, lT_n2, rfl, rfl, (by show 3 ≤ sizeLine; decide), (.cons ⟨_, rfl⟩ (.cons ⟨_, rfl⟩ (.cons ⟨_, rfl⟩ .nil)))⟩,
      t_n3 := fun _ => .inr ⟨_, _, _, lT_n3, rfl, rfl, (by show 3 ≤ sizeLine; decide), (.cons ⟨_, rfl⟩ (.cons ⟨_, rfl⟩ (.cons ⟨_, rfl⟩ .nil)))⟩,
      t_n4 := fun _ => .inr ⟨_, _, _, lT_n4, rfl, rfl, (by show 3 ≤ sizeLine; decide), (.cons ⟨_, rfl⟩ (.cons ⟨_, rfl⟩ (.cons ⟨_, rfl⟩ .nil)))⟩,
      t_n5 := fun _ => .inr ⟨_, _, _, lT_n5, rfl, rfl, (by show 3 ≤ sizeLine; decide), (.cons ⟨_, rfl⟩ (.cons ⟨_, rfl⟩ (.cons ⟨_, rfl⟩ .nil)))⟩,
      g_NUMBERS := PySem.W.mg_of X G a_NUMBERS,
      t_NUMBERS := fun _ => .inr ⟨_, _, _, lT_NUMBERS, rfl, rfl, (by show 11 ≤ sizeLine; decide), (.cons ⟨_, rfl⟩ (.cons ⟨_, rfl⟩ (.cons ⟨_, rfl⟩ (.cons ⟨_, rfl⟩ (.cons ⟨_, rfl⟩ (.cons ⟨_, rfl⟩ (.cons ⟨_, rfl⟩ (.cons ⟨_, rfl⟩ (.cons ⟨_, rfl⟩ (.cons ⟨_, rfl⟩ (.cons ⟨_, rfl⟩ .nil)))))))))))⟩,
      g_LISTS := PySem.W.mg_of X G a_LISTS,
      t_LISTS := fun _ => .inr ⟨_, _, _, lT_LISTS, rfl, rfl, (by show 11 ≤ sizeLine; decide), (.cons ⟨_, rfl⟩ (.cons ⟨_, rfl⟩ (.cons ⟨_, rfl⟩ (.cons ⟨_, rfl⟩ (.cons ⟨_, rfl⟩ (.cons ⟨_, rfl⟩ (.cons ⟨_, rfl⟩ (.cons ⟨_, rfl⟩ (.cons ⟨_, rfl⟩ (.cons ⟨_, rfl⟩ (.cons ⟨_, rfl⟩ .nil)))))))))))⟩,
      i_FACES := ⟨_, PySem.W.mg_of X G ic_FACES⟩,
      i_MOVES := ⟨_, PySem.W.mg_of X G ic_MOVES⟩,
      i_STICKERS := ⟨_, PySem.W.mg_of X G ic_STICKERS⟩,
      i_AVERAGE := ⟨_, PySem.W.mg_of X G ic_AVERAGE⟩,
      i_BEST := ⟨_, PySem.W.mg_of X G ic_BEST⟩,
      i_FEWEST := ⟨_, PySem.W.mg_of X G ic_FEWEST⟩,
      i_NONE := ⟨_, PySem.W.mg_of X G ic_NONE⟩,
      i_PENALTY := ⟨_, PySem.W.mg_of X G ic_PENALTY⟩,
      i_FOR_MOVE := ⟨_, PySem.W.mg_of X G ic_FOR_MOVE⟩,
      i_MOST_MOVES_rounds := ⟨_, PySem.W.mg_of X G ic_MOST_MOVES_rounds⟩,
      i_MOST_COMPETITORS := ⟨_, PySem.W.mg_of X G ic_MOST_COMPETITORS⟩,
      i_MOST_TIME := ⟨_, PySem.W.mg_of X G ic_MOST_TIME⟩,
      i_MOST_HUNDREDTHS := ⟨_, PySem.W.mg_of X G ic_MOST_HUNDREDTHS⟩,
      i_MOST_PENALTIES := ⟨_, PySem.W.mg_of X G ic_MOST_PENALTIES⟩,
      i_MOST_SCRAMBLE := ⟨_, PySem.W.mg_of X G ic_MOST_SCRAMBLE⟩,
      i_MOST_SOLUTION := ⟨_, PySem.W.mg_of X G ic_MOST_SOLUTION⟩,
      i_MOST_MOVES_desks := ⟨_, PySem.W.mg_of X G ic_MOST_MOVES_desks⟩,
      i_SCRAMBLES := ⟨_, PySem.W.mg_of X G ic_SCRAMBLES⟩,
      b_range := PySem.W.mg_none_of X G b_range,
      b_len := PySem.W.mg_none_of X G b_len,
      b_list := PySem.W.mg_none_of X G b_list,
      b_enumerate := PySem.W.mg_none_of X G b_enumerate,
      b_set := PySem.W.mg_none_of X G b_set,
      b_sorted := PySem.W.mg_none_of X G b_sorted,
      b_min := PySem.W.mg_none_of X G b_min,
      b_sum := PySem.W.mg_none_of X G b_sum,
      b_int := PySem.W.mg_none_of X G b_int,
      b_ValueError := PySem.W.mg_none_of X G b_ValueError }
  have F := fun_mk (st := s_answers) l_answers c_answers k_answers
  exact ⟨_, _, tb, nt, PySem.W.codeHd_of_K X hdO, fun s vs hu => match vs, hu with | [_], _ => .of_eq rfl, fun bs _ _ TB => ok_answers F T TB⟩
/-- the request, met -/
theorem s_case {K : PySem.W.Frag} {A : Ads} {H : Hp} {a : Addr} {ns : List Int} {E : XK} (hT : H A.pOrder = some (.tbl #[])) (hs : SqL K H a (ns.map V.int)) (hl : ns.length ≤ 24400) (hask : PyKg83.answers_asked ns = true) :
    spAnswers K A [.ref a] H (fun v H' => Dw K H' v (.list ((PyKg83.answers ns).map PySem.W.WData.int))) E := by
  obtain ⟨cs, e1, e2, e3, e4, e5⟩ := asked_ok hask
  subst e1
  refine ⟨a, cs, rfl, hs, fun p hp => ?_, e2, e3, Nat.le_trans hl (by decide), e4, fun H' L hL => ?_⟩
  · rw [List.mem_singleton.mp hp]
    exact TabS.nil hT
  · rw [e5]
    exact .lst (SqL.of hL) (dw_ints _)
theorem f_done {w : World} {K : PySem.W.Frag} {mg : Str → Option Value} {fa : Addr} {h : Heap} (F : FCase PySem.Challenge.rw_cubemeet_s01_answers.prog w K mg fa h) : Shown PySem.Challenge.rw_cubemeet_s01_answers w K CX0 20 ["calls"] mg fa h := by
  obtain ⟨fd, A, h1, h2, h3, h4, h5⟩ := F
  refine ⟨fd, A.cOrder, A.pOrder, _, h1, h2, h3, h4, fun H xs a hH within ask hx => ?_, h5⟩
  cases hx with
  | cons g1 g2 =>
    cases g2
    cases g1 with
    | lst hs ha =>
      cases L2.ints_dw a.1 _ ha
      have q : ((PySem.W.Codec.inLen 0 24400 a.1 && a.1.all (PySem.W.Codec.inInt (Int.negSucc 2147483647) (Int.ofNat 2147483647))) && true) = true := within
      exact s_case hH hs (PySem.W.Codec.inNat_iff.mp (Bool.and_eq_true_iff.mp (Bool.and_eq_true_iff.mp q).1).1).2 ask
end Cm
open PySem PySem.W PyProof.Rows
local macro_rules | `(tactic| o_headS ($f $k $a $e)) => `(tactic| o_headS (PySem.W.kmHook $k $a $e [142]))
set_option maxRecDepth 100000 in
set_option maxHeartbeats 0 in
theorem PySem.Challenge.cw_cubemeet_s01_answers_holds : PySem.Challenge.rw_cubemeet_s01_answers.Holds := by
  w_on; k_headS; (case hw => exact ⟨[.list [.int 8]], by decide +kernel, by decide +kernel⟩)
  k_fillS
  refine Cm.row_met (r := PySem.Challenge.rw_cubemeet_s01_answers) (k := 20) (CX := L2.CX0) (ps := ["calls"]) (by decide +kernel) rfl rfl ⟨rfl, by decide, by decide⟩ (fun w h Y => PySem.W.km_in_of Y) ?F (fun _ _ _ _ z => z)
  case F =>
    intro w mg fa h Y KX G hmg
    have hT : h.get? 142 = some (tabObj #[]) := PySem.W.km_tabs_of Y 142 (List.mem_singleton.mpr rfl)
    refine' Cm.f_done (Cm.all_mk KX G hmg hT ?nt ?a_place_of ?l_place_of ?c_place_of ?k_place_of ?a_all_stickers ?l_all_stickers ?c_all_stickers ?k_all_stickers ?a_inner ?l_inner ?c_inner ?k_inner ?a_turned ?l_turned ?c_turned ?k_turned ?a_sources ?l_sources ?c_sources ?k_sources ?a_solved_cube ?l_solved_cube ?c_solved_cube ?k_solved_cube ?a_is_solved ?l_is_solved ?c_is_solved ?k_is_solved ?a_are_moves ?l_are_moves ?c_are_moves ?k_are_moves ?a_third ?l_third ?c_third ?k_third ?a_average ?l_average ?c_average ?k_average ?a_behind ?l_behind ?c_behind ?k_behind ?a_solution_count ?l_solution_count ?c_solution_count ?k_solution_count ?a_must ?l_must ?c_must ?k_must ?a_is_within ?l_is_within ?c_is_within ?k_is_within ?a_begin ?l_begin ?c_begin ?k_begin ?a_begin_round ?l_begin_round ?c_begin_round ?k_begin_round ?a_scramble ?l_scramble ?c_scramble ?k_scramble ?a_must_attempt ?l_must_attempt ?c_must_attempt ?k_must_attempt ?a_put_attempt ?l_put_attempt ?c_put_attempt ?k_put_attempt ?a_time ?l_time ?c_time ?k_time ?a_no_time ?l_no_time ?c_no_time ?k_no_time ?a_solution ?l_solution ?c_solution ?k_solution ?a_card ?l_card ?c_card ?k_card ?a_order ?l_order ?c_order ?k_order ?a_cube ?l_cube ?c_cube ?k_cube ?a_solves ?l_solves ?c_solves ?k_solves ?a_of_rounds ?l_of_rounds ?c_of_rounds ?k_of_rounds ?a_of_cards ?l_of_cards ?c_of_cards ?k_of_cards ?a_answered ?l_answered ?c_answered ?k_answered ?a_lists_at ?l_lists_at ?c_lists_at ?k_lists_at ?a_answers ?l_answers ?c_answers ?k_answers ?a_Turns ?pg_Turns ?hd_Turns ?po_Turns ?sa_Turns ?mk_Turns ?kc_Turns ?n_Turns_rows ?a_Turns_init ?i_Turns_init ?l_Turns_init ?c_Turns_init ?k_Turns_init ?a_Turns_moved ?i_Turns_moved ?l_Turns_moved ?c_Turns_moved ?k_Turns_moved ?a_Round ?pg_Round ?hd_Round ?po_Round ?sa_Round ?mk_Round ?kc_Round ?n_Round_kind ?n_Round_limit ?n_Round_cutoff ?n_Round_members ?n_Round_attempts ?n_Round_scrambles ?a_Round_init ?i_Round_init ?l_Round_init ?c_Round_init ?k_Round_init ?a_Round_may_have ?i_Round_may_have ?l_Round_may_have ?c_Round_may_have ?k_Round_may_have ?a_Round_is_over ?i_Round_is_over ?l_Round_is_over ?c_Round_is_over ?k_Round_is_over ?a_Round_best ?i_Round_best ?l_Round_best ?c_Round_best ?k_Round_best ?a_Round_result ?i_Round_result ?l_Round_result ?c_Round_result ?k_Round_result ?a_Round_rank ?i_Round_rank ?l_Round_rank ?c_Round_rank ?k_Round_rank ?a_Round_order ?i_Round_order ?l_Round_order ?c_Round_order ?k_Round_order ?a_Round_timed ?i_Round_timed ?l_Round_timed ?c_Round_timed ?k_Round_timed ?a_Meet ?pg_Meet ?hd_Meet ?po_Meet ?sa_Meet ?mk_Meet ?kc_Meet ?n_Meet_turns ?n_Meet_competitors ?n_Meet_rounds ?n_Meet_current ?a_Meet_init ?i_Meet_init ?l_Meet_init ?c_Meet_init ?k_Meet_init ?hdO ?a_Refused ?xR ?saR ?gaR ?ggR ?nR ?yR ?zR ?l_Refused_init ?c_Refused_init ?k_Refused_init ?kR ?eR ?tR ?hR ?iR ?sR ?vR ?a_NORMALS ?lT_NORMALS ?lT_n0 ?lT_n1 ?lT_n2 ?lT_n3 ?lT_n4 ?lT_n5 ?a_NUMBERS ?lT_NUMBERS ?a_LISTS ?lT_LISTS ?ic_FACES ?ic_MOVES ?ic_STICKERS ?ic_AVERAGE ?ic_BEST ?ic_FEWEST ?ic_NONE ?ic_PENALTY ?ic_FOR_MOVE ?ic_MOST_MOVES_rounds ?ic_MOST_COMPETITORS ?ic_MOST_TIME ?ic_MOST_HUNDREDTHS ?ic_MOST_PENALTIES ?ic_MOST_SCRAMBLE ?ic_MOST_SOLUTION ?ic_MOST_MOVES_desks ?ic_SCRAMBLES ?b_range ?b_len ?b_list ?b_enumerate ?b_set ?b_sorted ?b_min ?b_sum ?b_int ?b_ValueError)
    (case nt => kernel_rfl)
    (case a_place_of => k_is)
    (case l_place_of => k_is)
    (case c_place_of => k_is)
    (case k_place_of => k_is)
    (case a_all_stickers => k_is)
    (case l_all_stickers => k_is)
    (case c_all_stickers => k_is)
    (case k_all_stickers => k_is)
    (case a_inner => k_is)
    (case l_inner => k_is)
    (case c_inner => k_is)
    (case k_inner => k_is)
    (case a_turned => k_is)
    (case l_turned => k_is)
    (case c_turned => k_is)
    (case k_turned => k_is)
    (case a_sources => k_is)
    (case l_sources => k_is)
    (case c_sources => k_is)
    (case k_sources => k_is)
    (case a_solved_cube => k_is)
    (case l_solved_cube => k_is)
    (case c_solved_cube => k_is)
    (case k_solved_cube => k_is)
    (case a_is_solved => k_is)
    (case l_is_solved => k_is)
    (case c_is_solved => k_is)
    (case k_is_solved => k_is)
    (case a_are_moves => k_is)
    (case l_are_moves => k_is)
    (case c_are_moves => k_is)
    (case k_are_moves => k_is)
    (case a_third => k_is)
    (case l_third => k_is)
    (case c_third => k_is)
    (case k_third => k_is)
    (case a_average => k_is)
    (case l_average => k_is)
    (case c_average => k_is)
    (case k_average => k_is)
    (case a_behind => k_is)
    (case l_behind => k_is)
    (case c_behind => k_is)
    (case k_behind => k_is)
    (case a_solution_count => k_is)
    (case l_solution_count => k_is)
    (case c_solution_count => k_is)
    (case k_solution_count => k_is)
    (case a_must => k_is)
    (case l_must => k_is)
    (case c_must => k_is)
    (case k_must => k_is)
    (case a_is_within => k_is)
    (case l_is_within => k_is)
    (case c_is_within => k_is)
    (case k_is_within => k_is)
    (case a_begin => k_is)
    (case l_begin => k_is)
    (case c_begin => k_is)
    (case k_begin => k_is)
    (case a_begin_round => k_is)
    (case l_begin_round => k_is)
    (case c_begin_round => k_is)
    (case k_begin_round => k_is)
    (case a_scramble => k_is)
    (case l_scramble => k_is)
    (case c_scramble => k_is)
    (case k_scramble => k_is)
    (case a_must_attempt => k_is)
    (case l_must_attempt => k_is)
    (case c_must_attempt => k_is)
    (case k_must_attempt => k_is)
    (case a_put_attempt => k_is)
    (case l_put_attempt => k_is)
    (case c_put_attempt => k_is)
    (case k_put_attempt => k_is)
    (case a_time => k_is)
    (case l_time => k_is)
    (case c_time => k_is)
    (case k_time => k_is)
    (case a_no_time => k_is)
    (case l_no_time => k_is)
    (case c_no_time => k_is)
    (case k_no_time => k_is)
    (case a_solution => k_is)
    (case l_solution => k_is)
    (case c_solution => k_is)
    (case k_solution => k_is)
    (case a_card => k_is)
    (case l_card => k_is)
    (case c_card => k_is)
    (case k_card => k_is)
    (case a_order => k_is)
    (case l_order => k_is)
    (case c_order => k_is)
    (case k_order => k_is)
    (case a_cube => k_is)
    (case l_cube => k_is)
    (case c_cube => k_is)
    (case k_cube => k_is)
    (case a_solves => k_is)
    (case l_solves => k_is)
    (case c_solves => k_is)
    (case k_solves => k_is)
    (case a_of_rounds => k_is)
    (case l_of_rounds => k_is)
    (case c_of_rounds => k_is)
    (case k_of_rounds => k_is)
    (case a_of_cards => k_is)
    (case l_of_cards => k_is)
    (case c_of_cards => k_is)
    (case k_of_cards => k_is)
    (case a_answered => k_is)
    (case l_answered => k_is)
    (case c_answered => k_is)
    (case k_answered => k_is)
    (case a_lists_at => k_is)
    (case l_lists_at => k_is)
    (case c_lists_at => k_is)
    (case k_lists_at => k_is)
    (case a_answers => k_is)
    (case l_answers => k_is)
    (case c_answers => k_is)
    (case k_answers => k_is)
    (case a_Turns => k_is)
    (case pg_Turns => k_is)
    (case hd_Turns => k_is)
    (case po_Turns => k_is)
    (case sa_Turns => k_is)
    (case mk_Turns => k_is)
    (case kc_Turns => k_is)
    (case n_Turns_rows => k_is)
    (case a_Turns_init => k_is)
    (case i_Turns_init => k_is)
    (case l_Turns_init => k_is)
    (case c_Turns_init => k_is)
    (case k_Turns_init => k_is)
    (case a_Turns_moved => k_is)
    (case i_Turns_moved => k_is)
    (case l_Turns_moved => k_is)
    (case c_Turns_moved => k_is)
    (case k_Turns_moved => k_is)
    (case a_Round => k_is)
    (case pg_Round => k_is)
    (case hd_Round => k_is)
    (case po_Round => k_is)
    (case sa_Round => k_is)
    (case mk_Round => k_is)
    (case kc_Round => k_is)
    (case n_Round_kind => k_is)
    (case n_Round_limit => k_is)
    (case n_Round_cutoff => k_is)
    (case n_Round_members => k_is)
    (case n_Round_attempts => k_is)
    (case n_Round_scrambles => k_is)
    (case a_Round_init => k_is)
    (case i_Round_init => k_is)
    (case l_Round_init => k_is)
    (case c_Round_init => k_is)
    (case k_Round_init => k_is)
    (case a_Round_may_have => k_is)
    (case i_Round_may_have => k_is)
    (case l_Round_may_have => k_is)
    (case c_Round_may_have => k_is)
    (case k_Round_may_have => k_is)
    (case a_Round_is_over => k_is)
    (case i_Round_is_over => k_is)
    (case l_Round_is_over => k_is)
    (case c_Round_is_over => k_is)
    (case k_Round_is_over => k_is)
    (case a_Round_best => k_is)
    (case i_Round_best => k_is)
    (case l_Round_best => k_is)
    (case c_Round_best => k_is)
    (case k_Round_best => k_is)
    (case a_Round_result => k_is)
    (case i_Round_result => k_is)
    (case l_Round_result => k_is)
    (case c_Round_result => k_is)
    (case k_Round_result => k_is)
    (case a_Round_rank => k_is)
    (case i_Round_rank => k_is)
    (case l_Round_rank => k_is)
    (case c_Round_rank => k_is)
    (case k_Round_rank => k_is)
    (case a_Round_order => k_is)
    (case i_Round_order => k_is)
    (case l_Round_order => k_is)
    (case c_Round_order => k_is)
    (case k_Round_order => k_is)
    (case a_Round_timed => k_is)
    (case i_Round_timed => k_is)
    (case l_Round_timed => k_is)
    (case c_Round_timed => k_is)
    (case k_Round_timed => k_is)
    (case a_Meet => k_is)
    (case pg_Meet => k_is)
    (case hd_Meet => k_is)
    (case po_Meet => k_is)
    (case sa_Meet => k_is)
    (case mk_Meet => k_is)
    (case kc_Meet => k_is)
    (case n_Meet_turns => k_is)
    (case n_Meet_competitors => k_is)
    (case n_Meet_rounds => k_is)
    (case n_Meet_current => k_is)
    (case a_Meet_init => k_is)
    (case i_Meet_init => k_is)
    (case l_Meet_init => k_is)
    (case c_Meet_init => k_is)
    (case k_Meet_init => k_is)
    (case hdO => kernel_rfl)
    (case a_Refused => k_is)
    (case xR => k_is)
    (case saR => k_is)
    (case gaR => k_is)
    (case ggR => k_is)
    (case nR => k_is)
    (case yR => k_is)
    (case zR => k_is)
    (case l_Refused_init => k_is)
    (case c_Refused_init => k_is)
    (case k_Refused_init => k_is)
    (case kR => k_is)
    (case eR => k_is)
    (case tR => k_is)
    (case hR => k_is)
    (case iR => k_is)
    (case sR => first | rfl | k_is)
    (case vR => first | k_is | kernel_rfl)
    (case a_NORMALS => k_is)
    (case lT_NORMALS => k_is)
    (case lT_n0 => k_is)
    (case lT_n1 => k_is)
    (case lT_n2 => k_is)
    (case lT_n3 => k_is)
    (case lT_n4 => k_is)
    (case lT_n5 => k_is)
    (case a_NUMBERS => k_is)
    (case lT_NUMBERS => k_is)
    (case a_LISTS => k_is)
    (case lT_LISTS => k_is)
    (case ic_FACES => k_is)
    (case ic_MOVES => k_is)
    (case ic_STICKERS => k_is)
    (case ic_AVERAGE => k_is)
    (case ic_BEST => k_is)
    (case ic_FEWEST => k_is)
    (case ic_NONE => k_is)
    (case ic_PENALTY => k_is)
    (case ic_FOR_MOVE => k_is)
    (case ic_MOST_MOVES_rounds => k_is)
    (case ic_MOST_COMPETITORS => k_is)
    (case ic_MOST_TIME => k_is)
    (case ic_MOST_HUNDREDTHS => k_is)
    (case ic_MOST_PENALTIES => k_is)
    (case ic_MOST_SCRAMBLE => k_is)
    (case ic_MOST_SOLUTION => k_is)
    (case ic_MOST_MOVES_desks => k_is)
    (case ic_SCRAMBLES => k_is)
    (case b_range => k_is)
    (case b_len => k_is)
    (case b_list => k_is)
    (case b_enumerate => k_is)
    (case b_set => k_is)
    (case b_sorted => k_is)
    (case b_min => k_is)
    (case b_sum => k_is)
    (case b_int => k_is)
    (case b_ValueError => k_is)
