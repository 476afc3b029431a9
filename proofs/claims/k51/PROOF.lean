import PyProof.Rows.All
import Wide.All
import OpenK.AllK
import Wide.FinOn
import HandS.ForMost
import HandS.Zip
import HandS.Deep
import HandS.IsInst
import HandS.Defaults
import HandS.TupAny
import HandS.TupSets
import HandS.Walk
import HandS.Conv
import KE.KTupSum
import KE.KSortTupG
import KE.GoesEnum
import HandS.SetFor
import PySem.Challenge.RW_fourtouch_k51_whole_no_other_circle
set_option Elab.async false
set_option linter.all false
set_option maxRecDepth 100000
set_option maxHeartbeats 8000000
/-! K51A: the text by places, the facts of the top, words of the heap. -/
namespace K51
open PySem L2
def topS (i : Nat) : Stmt := PySem.Challenge.pw_fourtouch_k51_whole_no_other_circle.main.body.getD i (.Pass ⟨0, 0, 0, 0⟩)
abbrev s_isCircle : Stmt := topS 9
abbrev s_checkCircle : Stmt := topS 10
abbrev s_double : Stmt := topS 11
abbrev s_outward : Stmt := topS 12
abbrev s_touch : Stmt := topS 13
abbrev s_checkWord : Stmt := topS 16
abbrev s_fourAt : Stmt := topS 18
abbrev s_foursAlong : Stmt := topS 19
abbrev s_greaterPlace : Stmt := topS 21
abbrev s_wayDown : Stmt := topS 22
abbrev s_rootOf : Stmt := topS 23
abbrev s_boundedRoot : Stmt := topS 26
abbrev s_sInit : Stmt := inClass (topS 27) 0
abbrev s_sNote : Stmt := inClass (topS 27) 1
abbrev s_sRun : Stmt := inClass (topS 27) 2
abbrev s_checkNumber : Stmt := topS 31
abbrev s_fInit : Stmt := inClass (topS 32) 0
abbrev s_fCurv : Stmt := inClass (topS 32) 1
abbrev s_fCircle : Stmt := inClass (topS 32) 2
abbrev s_fOther : Stmt := inClass (topS 32) 4
abbrev s_fExch : Stmt := inClass (topS 32) 5
abbrev s_fStrip : Stmt := inClass (topS 32) 7
abbrev s_lRow : Stmt := topS 34
abbrev s_lNumbers : Stmt := topS 35
abbrev s_lBase : Stmt := topS 36
abbrev s_lMoved : Stmt := topS 37
abbrev s_lOther : Stmt := topS 38
abbrev s_lExch : Stmt := topS 39
abbrev s_lAt : Stmt := topS 40
abbrev s_lWord : Stmt := topS 41
abbrev s_lDouble : Stmt := topS 43
abbrev s_lEighths : Stmt := topS 45
abbrev s_lAddress : Stmt := topS 46
abbrev s_circlesUpTo : Stmt := topS 28
abbrev s_law : Stmt := topS 47
/-- what the top has left: where each def stands, what the classes are, which names are still the built-in ones -/
structure Txt (K : PySem.W.Frag) (mg : Str → Option Value) where
  cF : Addr
  cS : Addr
  clF : Cls K cF
  clS : Cls K cS
  gcF : mg "Four" = some (.ref cF)
  gcS : mg "Search" = some (.ref cS)
  naC : NoAttr K cF "circles"
  na_most : NoAttr K cS "most"
  na_limit : NoAttr K cS "limit"
  na_found : NoAttr K cS "found"
  na_waiting : NoAttr K cS "waiting"
  b_len : mg "len" = none
  b_range : mg "range" = none
  b_tuple : mg "tuple" = none
  b_enumerate : mg "enumerate" = none
  b_all : mg "all" = none
  b_sum : mg "sum" = none
  b_zip : mg "zip" = none
  b_sorted : mg "sorted" = none
  b_set : mg "set" = none
  b_int : mg "int" = none
  b_abs : mg "abs" = none
  b_max : mg "max" = none
  b_isinstance : mg "isinstance" = none
  b_bool : mg "bool" = none
  nL : Addr
  g_nL : mg "LETTERS" = some (.ref nL)
  sq_nL : ∀ H : Hp, SqT K H nL [.int 1, .int 2, .int 3, .int 4]
  kt_nL : ∃ o, K.lookup nL = some o ∧ o.cls = .type "tuple"
  nN : Addr
  g_nN : mg "NUMBERS_lists" = some (.ref nN)
  sq_nN : ∀ H : Hp, SqT K H nN [.int 1, .int 2, .int 3, .int 4]
  kt_nN : ∃ o, K.lookup nN = some o ∧ o.cls = .type "tuple"
  nF : Addr
  g_nF : mg "NUMBERS_fours" = some (.ref nF)
  sq_nF : ∀ H : Hp, SqT K H nF [.int 1, .int 2, .int 3, .int 4]
  kt_nF : ∃ o, K.lookup nF = some o ∧ o.cls = .type "tuple"
  f_isCircle : Addr
  d_isCircle : FuncData
  F_isCircle : Fun K "is_circle" "is_circle" s_isCircle f_isCircle d_isCircle
  y_isCircle : Binds K d_isCircle ["circle"] []
  g_isCircle : mg "is_circle" = some (.ref f_isCircle)
  f_checkCircle : Addr
  d_checkCircle : FuncData
  F_checkCircle : Fun K "check_circle" "check_circle" s_checkCircle f_checkCircle d_checkCircle
  y_checkCircle : Binds K d_checkCircle ["circle"] []
  g_checkCircle : mg "check_circle" = some (.ref f_checkCircle)
  f_double : Addr
  d_double : FuncData
  F_double : Fun K "double" "double" s_double f_double d_double
  y_double : Binds K d_double ["one", "other"] []
  g_double : mg "double" = some (.ref f_double)
  f_outward : Addr
  d_outward : FuncData
  F_outward : Fun K "are_outward" "are_outward" s_outward f_outward d_outward
  y_outward : Binds K d_outward ["one", "other"] []
  g_outward : mg "are_outward" = some (.ref f_outward)
  f_touch : Addr
  d_touch : FuncData
  F_touch : Fun K "touch" "touch" s_touch f_touch d_touch
  y_touch : Binds K d_touch ["one", "other"] []
  g_touch : mg "touch" = some (.ref f_touch)
  f_checkWord : Addr
  d_checkWord : FuncData
  F_checkWord : Fun K "check_word" "check_word" s_checkWord f_checkWord d_checkWord
  y_checkWord : Binds K d_checkWord ["word"] []
  g_checkWord : mg "check_word" = some (.ref f_checkWord)
  f_fourAt : Addr
  d_fourAt : FuncData
  F_fourAt : Fun K "four_at" "four_at" s_fourAt f_fourAt d_fourAt
  y_fourAt : Binds K d_fourAt ["four", "word"] []
  g_fourAt : mg "four_at" = some (.ref f_fourAt)
  f_foursAlong : Addr
  d_foursAlong : FuncData
  F_foursAlong : Fun K "fours_along" "fours_along" s_foursAlong f_foursAlong d_foursAlong
  y_foursAlong : Binds K d_foursAlong ["four", "word"] []
  g_foursAlong : mg "fours_along" = some (.ref f_foursAlong)
  f_greaterPlace : Addr
  d_greaterPlace : FuncData
  F_greaterPlace : Fun K "greater_place" "greater_place" s_greaterPlace f_greaterPlace d_greaterPlace
  y_greaterPlace : Binds K d_greaterPlace ["four"] []
  g_greaterPlace : mg "greater_place" = some (.ref f_greaterPlace)
  f_wayDown : Addr
  d_wayDown : FuncData
  F_wayDown : Fun K "way_down" "way_down" s_wayDown f_wayDown d_wayDown
  y_wayDown : Binds K d_wayDown ["four"] []
  g_wayDown : mg "way_down" = some (.ref f_wayDown)
  f_rootOf : Addr
  d_rootOf : FuncData
  F_rootOf : Fun K "root_of" "root_of" s_rootOf f_rootOf d_rootOf
  y_rootOf : Binds K d_rootOf ["four"] []
  g_rootOf : mg "root_of" = some (.ref f_rootOf)
  f_boundedRoot : Addr
  d_boundedRoot : FuncData
  F_boundedRoot : Fun K "bounded_root" "bounded_root" s_boundedRoot f_boundedRoot d_boundedRoot
  y_boundedRoot : Binds K d_boundedRoot ["four"] []
  g_boundedRoot : mg "bounded_root" = some (.ref f_boundedRoot)
  f_sInit : Addr
  d_sInit : FuncData
  F_sInit : Fun K "__init__" "Search.__init__" s_sInit f_sInit d_sInit
  y_sInit : Binds K d_sInit ["self", "root", "most", "limit"] []
  m_sInit : Mk K cS f_sInit
  f_sNote : Addr
  d_sNote : FuncData
  F_sNote : Fun K "note" "Search.note" s_sNote f_sNote d_sNote
  y_sNote : Binds K d_sNote ["self", "circle"] []
  m_sNote : Meth K cS "note" f_sNote
  f_sRun : Addr
  d_sRun : FuncData
  F_sRun : Fun K "run" "Search.run" s_sRun f_sRun d_sRun
  y_sRun : Binds K d_sRun ["self"] []
  m_sRun : Meth K cS "run" f_sRun
  f_checkNumber : Addr
  d_checkNumber : FuncData
  F_checkNumber : Fun K "check_number" "check_number" s_checkNumber f_checkNumber d_checkNumber
  y_checkNumber : Binds K d_checkNumber ["number"] []
  g_checkNumber : mg "check_number" = some (.ref f_checkNumber)
  f_fInit : Addr
  d_fInit : FuncData
  F_fInit : Fun K "__init__" "Four.__init__" s_fInit f_fInit d_fInit
  y_fInit : Binds K d_fInit ["self", "circles"] []
  m_fInit : Mk K cF f_fInit
  f_fCurv : Addr
  d_fCurv : FuncData
  F_fCurv : Fun K "curvatures" "Four.curvatures" s_fCurv f_fCurv d_fCurv
  y_fCurv : Binds K d_fCurv ["self"] []
  m_fCurv : Meth K cF "curvatures" f_fCurv
  f_fCircle : Addr
  d_fCircle : FuncData
  F_fCircle : Fun K "circle" "Four.circle" s_fCircle f_fCircle d_fCircle
  y_fCircle : Binds K d_fCircle ["self", "number"] []
  m_fCircle : Meth K cF "circle" f_fCircle
  f_fOther : Addr
  d_fOther : FuncData
  F_fOther : Fun K "other" "Four.other" s_fOther f_fOther d_fOther
  y_fOther : Binds K d_fOther ["self", "number"] []
  m_fOther : Meth K cF "other" f_fOther
  f_fExch : Addr
  d_fExch : FuncData
  F_fExch : Fun K "exchanged" "Four.exchanged" s_fExch f_fExch d_fExch
  y_fExch : Binds K d_fExch ["self", "number"] []
  m_fExch : Meth K cF "exchanged" f_fExch
  f_fStrip : Addr
  d_fStrip : FuncData
  F_fStrip : Fun K "is_strip" "Four.is_strip" s_fStrip f_fStrip d_fStrip
  y_fStrip : Binds K d_fStrip ["self"] []
  m_fStrip : Meth K cF "is_strip" f_fStrip
  f_lRow : Addr
  d_lRow : FuncData
  F_lRow : Fun K "_law_row" "_law_row" s_lRow f_lRow d_lRow
  y_lRow : Binds K d_lRow ["_law_cell", "_law_many"] []
  g_lRow : mg "_law_row" = some (.ref f_lRow)
  f_lNumbers : Addr
  d_lNumbers : FuncData
  F_lNumbers : Fun K "_law_numbers" "_law_numbers" s_lNumbers f_lNumbers d_lNumbers
  y_lNumbers : Binds K d_lNumbers ["_law_script", "_law_many"] []
  g_lNumbers : mg "_law_numbers" = some (.ref f_lNumbers)
  f_lBase : Addr
  d_lBase : FuncData
  F_lBase : Fun K "_law_base" "_law_base" s_lBase f_lBase d_lBase
  y_lBase : Binds K d_lBase ["_law_number"] []
  g_lBase : mg "_law_base" = some (.ref f_lBase)
  f_lMoved : Addr
  d_lMoved : FuncData
  F_lMoved : Fun K "_law_moved" "_law_moved" s_lMoved f_lMoved d_lMoved
  y_lMoved : Binds K d_lMoved ["_law_circle", "_law_s", "_law_t", "_law_turns", "_law_mirror"] []
  g_lMoved : mg "_law_moved" = some (.ref f_lMoved)
  f_lOther : Addr
  d_lOther : FuncData
  F_lOther : Fun K "_law_other" "_law_other" s_lOther f_lOther d_lOther
  y_lOther : Binds K d_lOther ["_law_four_here", "_law_number"] []
  g_lOther : mg "_law_other" = some (.ref f_lOther)
  f_lExch : Addr
  d_lExch : FuncData
  F_lExch : Fun K "_law_exchanged" "_law_exchanged" s_lExch f_lExch d_lExch
  y_lExch : Binds K d_lExch ["_law_four_here", "_law_number"] []
  g_lExch : mg "_law_exchanged" = some (.ref f_lExch)
  f_lAt : Addr
  d_lAt : FuncData
  F_lAt : Fun K "_law_at" "_law_at" s_lAt f_lAt d_lAt
  y_lAt : Binds K d_lAt ["_law_four_here", "_law_word_here"] []
  g_lAt : mg "_law_at" = some (.ref f_lAt)
  f_lWord : Addr
  d_lWord : FuncData
  F_lWord : Fun K "_law_word" "_law_word" s_lWord f_lWord d_lWord
  y_lWord : Binds K d_lWord ["_law_numbers_here", "_law_at_here", "_law_many"] []
  g_lWord : mg "_law_word" = some (.ref f_lWord)
  f_lDouble : Addr
  d_lDouble : FuncData
  F_lDouble : Fun K "_law_double" "_law_double" s_lDouble f_lDouble d_lDouble
  y_lDouble : Binds K d_lDouble ["_law_one", "_law_other_here"] []
  g_lDouble : mg "_law_double" = some (.ref f_lDouble)
  f_lEighths : Addr
  d_lEighths : FuncData
  F_lEighths : Fun K "_law_eighths" "_law_eighths" s_lEighths f_lEighths d_lEighths
  y_lEighths : Binds K d_lEighths ["_law_four_here", "_law_circle"] []
  g_lEighths : mg "_law_eighths" = some (.ref f_lEighths)
  f_lAddress : Addr
  d_lAddress : FuncData
  F_lAddress : Fun K "_law_address" "_law_address" s_lAddress f_lAddress d_lAddress
  y_lAddress : Binds K d_lAddress ["_law_four_here", "_law_circle"] []
  g_lAddress : mg "_law_address" = some (.ref f_lAddress)
  f_up : Addr
  d_up : FuncData
  F_up : FunD K "circles_up_to" "circles_up_to" (defArgs s_circlesUpTo) (defBody s_circlesUpTo) (defScope s_circlesUpTo) [] [("limit", .int 2000)] f_up d_up
  ds_up : List Value
  v_up : Vals [.int 2000] ds_up
  y_up : Binds K d_up ["four", "most", "limit"] ds_up
  g_up : mg "circles_up_to" = some (.ref f_up)
end K51
/-! K51R: rules of our own: enumerate of a tuple, zip of a list and a tuple, sum and count of a tuple, len of a set of tuples, sorted of tuples. -/
namespace K51
open PySem PySem.Spec PyProof.Rows L2
/-! ### enumerate(t), enumerate(t, k) -/
theorem meets_enum1 {v : Value} {o : Obj} {H : Heap → Prop} (B : Begins v o H) :
    Meets (Builtin.«enumerate.__new__» ⟨[.type "enumerate", v], []⟩) (fun _ R s => H s.heap ∧
      R (.ok (.ret (.ref (s.heap.push o).objs.size))) { s with heap := (s.heap.push o).push { cls := .type "enumerate", data := .fields #[.none, .bool false, .ref s.heap.objs.size, rawInt 0, .none, .none] } }) :=
  .of_wp fun prog w A R s h => by
    obtain ⟨hp, g, d, tk, os⟩ := s; obtain ⟨h1, h⟩ := h
    have hsub := sub_enumerate
    have q1 : ∀ {A' : Around} {E : Value → Shared → Prop} {Q : Value → Shared → Prop}, Q (.ref hp.objs.size) ⟨hp.push o, g, d, tk, os⟩ → wpAny (model prog w) A' (pyIter v) Q E ⟨hp, g, d, tk, os⟩ :=
      fun q => B.iter prog w _ _ ⟨hp, g, d, tk, os⟩ _ h1 q
    wp_walk using q1
    refine wpAny_stack_any fun st => wpAny_pure ?_
    split
    · rename_i c _ _ _ _ _
      cases (c == Value.type "enumerate")
      · wp_walk using q1
        exact ⟨_, rfl, h⟩
      · wp_walk using q1
        exact ⟨_, rfl, h⟩
    · wp_walk using q1
      exact ⟨_, rfl, h⟩
theorem enum_begins1 {prog : Program} {w : World} {A : Around} {E : Value → Shared → Prop} {s : Shared} {v : Value} {o : Obj} {H : Heap → Prop} {Q : Value → Shared → Prop} (B : Begins v o H) (h1 : H s.heap)
    (h : ∀ h', IsEnum h' (s.heap.objs.size + 1) s.heap.objs.size 0 .none → h'.get? s.heap.objs.size = some o → h'.objs.size = s.heap.objs.size + 2 →
      (∀ b o, s.heap.get? b = some o → h'.get? b = some o) → Q (.ref (s.heap.objs.size + 1)) { s with heap := h' }) :
    wpAny (model prog w) A (call (.type "enumerate") [v]) Q E s := by
  refine callType_new F.called_enumerate (by decide) (F.typeCall_enumerate_1 _) (F.newCall_enumerate_1 _) (fun obj => F.args_object_init_2 obj _) F.entry_enumerate_new
    (meets_enum1 B) ⟨h1, ?_⟩
  have hz : (s.heap.push o).objs.size = s.heap.objs.size + 1 := Heap.size_push ..
  show _ ∧ _
  rw [hz]
  have he : IsEnum ((s.heap.push o).push { cls := .type "enumerate", data := .fields #[.none, .bool false, .ref s.heap.objs.size, rawInt 0, .none, .none] }) (s.heap.objs.size + 1) s.heap.objs.size 0 .none := by
    have := Heap.get?_push_size (s.heap.push o) (o := { cls := .type "enumerate", data := .fields #[.none, .bool false, .ref s.heap.objs.size, rawInt 0, .none, .none] }) rfl
    rw [hz] at this; exact this
  refine ⟨⟨_, he, rfl⟩, h _ he (Heap.get?_push_of_some _ (Heap.get?_push_size _ B.free)) (by rw [Heap.size_push, hz]) fun b o x => Heap.get?_push_of_some _ (Heap.get?_push_of_some _ x)⟩
/-- the tuple at a, each item in a new pair with its number from k on -/
def IteT (K : PySem.W.Frag) (a : Addr) (k : Int) : It :=
  ⟨fun i H => ∃ (xs : List V) (x : V), SqT K H a xs ∧ xs[i]? = some x, fun i H v H' => ∃ T x, v = .ref T ∧ H T = none ∧ H' = upd H T (.tup [.int (k + (i : Nat)), x]) ∧ ∀ xs, SqT K H a xs → xs[i]? = some x, fun i H => ∃ xs : List V, SqT K H a xs ∧ xs.length = i⟩
theorem turn_enumT {P : Program} {w : World} {K : PySem.W.Frag} {elts : List Expr} {kk : Nat} {tpos : Pos} (a e it : Addr) (k : Int) (hae : a ≠ e) (hai : a ≠ it) :
    Turn P w K (.Tuple elts kk tpos) (IteT K a k) [e, it] e (fun i h => (∃ old, IsEnum h e it (k + (i : Nat)) old) ∧ h.IsTupleIter it a i ∧ e ≠ it) where
  mem := by simp
  obj := fun i h st b hb => by
    obtain ⟨⟨old, he⟩, ⟨o, ho, hc, hd⟩, _⟩ := st
    have e' : b = e ∨ b = it := by simpa using hb
    rcases e' with z | z
    · rw [z]; exact ⟨_, he, fun v q => nomatch q⟩
    · rw [z]; exact ⟨o, ho, fun v q => by rw [hd] at q; cases q⟩
  keep := fun i h h' st k => let ⟨⟨old, he⟩, hi, hne⟩ := st; ⟨⟨old, k e (by simp) _ he⟩, hi.at fun o q => k it (by simp) o q, hne⟩
  item := by
    intro X hP hw hK hc i pins s σ H E I hf st hg
    subst hP hw hK
    obtain ⟨⟨old, he⟩, hit, hne⟩ := st
    obtain ⟨xs, x, hq, hx⟩ := hg
    obtain ⟨its, rv, p, hz⟩ := I.tuple hq
    obtain ⟨u, hu, ru⟩ := rv.get hx
    have hel : e < s.heap.objs.size := Heap.lt_size he
    have hil : it < s.heap.objs.size := by obtain ⟨_, q, _⟩ := hit; exact Heap.lt_size q
    have hilt : i < its.toArray.size := by
      obtain ⟨q, _⟩ := List.getElem?_eq_some_iff.mp hu
      simpa using q
    have hh : X.A.in1.handled = none := I.ok.hd hc
    refine wpAny_pyNext_enum_itemC (Draws.tuple hh it a hai its.toArray) he ⟨hit, p⟩ hilt hne (by simp [hne, Ne.symm hae]) fun y h' tk hy ho hst hT hsz hk => ?_
    have ey : y = u := by
      have h2 : its[i]? = some y := by simpa using hy
      rw [hu] at h2
      exact (Option.some.inj h2).symm
    subst ey
    obtain ⟨hit', _⟩ := hst
    refine ⟨_, rfl, wpAny_letOwnedTupleGo_enum (s := { s with heap := h', toks := tk + 1 }) ho fun h'' he' sb => ?_⟩
    have hT2 : h''.get? s.heap.objs.size = some { cls := .type "tuple", data := .seq #[.int (k + (i : Nat)) tk, y] } := (sb.2 _ (Nat.ne_of_gt hel)).trans hT
    have new : ObjOk X.prog X.w (upd H s.heap.objs.size (.tup [.int (k + (i : Nat)), x])) h'' s.heap.objs.size (.tup [.int (k + (i : Nat)), x]) :=
      ⟨by show 2 ≤ sizeLine; decide, [.int (k + (i : Nat)) tk, y], .cons ⟨_, rfl⟩ (.cons ru .nil), ⟨_, hT2, rfl, _, rfl⟩⟩
    have I1 : Inv X pins σ (upd H s.heap.objs.size (.tup [.int (k + (i : Nat)), x])) { s with heap := h'', toks := tk + 1 } :=
      I.turnedNew (ch := [e, it]) (fun b ob hb q => (sb.2 b (fun z => hb (by simp [z]))).trans (hk b ob (fun z => hb (by simp [z])) (fun z => hb (by simp [z])) q)) hf (Nat.le_refl _) new
    refine ⟨.ref s.heap.objs.size, _, I1, rfl, ⟨_, x, rfl, I.hok.fresh (Nat.le_refl _), rfl, fun ys hy => by rw [I.tuple_inj hy hq]; exact hx⟩, ⟨⟨y, ?_⟩, hit'.at fun o q => (sb.2 it (Ne.symm hne)).trans q, hne⟩, fun b hb => ?_⟩
    · have e1 : k + ((i + 1 : Nat) : Int) = k + (i : Int) + 1 := by omega
      rw [e1]; exact he'
    · have hb' : b < s.heap.objs.size := by
        have e' : b = e ∨ b = it := by simpa using hb
        rcases e' with z | z
        · rw [z]; exact hel
        · rw [z]; exact hil
      rw [upd_ne (Nat.ne_of_lt hb')]
      exact (hf b hb).1
  done := by
    intro X hP hw hK hc i pins s σ H E I hf st hg
    subst hP hw hK
    obtain ⟨⟨old, he⟩, hit, hne⟩ := st
    obtain ⟨xs, hq, hx⟩ := hg
    obtain ⟨its, rv, p, hz⟩ := I.tuple hq
    obtain ⟨f0, f1, f2, f3, f4, f5⟩ := hf it (by simp)
    have hl := rv.length
    have hh : X.A.in1.handled = none := I.ok.hd hc
    have hs : its.toArray.size = i := by simp; omega
    refine wpAny_pyNext_enum_endD (Draws.tuple hh it a hai its.toArray) he ⟨by rw [hs]; exact hit, p⟩ fun h' eb => ⟨rfl, I.turned (t' := s.toks) (fun b o hb q => eb b o hb q) f0 f1 f3 f4 f5⟩
  self := fun A i s Q E st h => let ⟨⟨_, he⟩, _⟩ := st; wpAny_pyIter_enum he h
def iEnumT (K : PySem.W.Frag) (ta : TA) : TI := fun σ H R => ta σ H fun vs H1 => ∃ a xs, vs = [.ref a] ∧ SqT K H1 a xs ∧ R (IteT K a 0) H1
def iEnumT1 (K : PySem.W.Frag) (ta : TA) : TI := fun σ H R => ta σ H fun vs H1 => ∃ a xs, vs = [.ref a, .int 1] ∧ SqT K H1 a xs ∧ R (IteT K a 1) H1
theorem iterAt_of {h : Heap} {i a : Addr} (e : h.get? i = some { cls := .type "tuple_iterator", data := .fields #[.ref a, .int 0 0] }) : h.IsTupleIter i a 0 := ⟨_, e, rfl, rfl⟩
section
variable {X : Cx} {e e2 : Expr} {ta : TA} {p pos tpos : Pos} {elts : List Expr} {kk : Nat}
theorem pi_enumT (hg : Gl X "enumerate") (hm : X.mg "enumerate" = none) (ha : PA X [e] ta) (hs : starEach [e] X.env = [(false, eval e X.env)] := by rfl) :
    PI X (.Tuple elts kk tpos) (.Call (.Name "enumerate" p) [e] [] pos) (iEnumT X.K ta) := by
  refine ⟨fun pins s σ H R I h => ?_⟩
  refine Call_ (ld_blt I hg hm boot_enumerate (PyProof.Rows.callWith_type1 (thn (ha.run pos pins s σ H _ I h) fun us s1 ⟨vs, H1, I1, r1, q1⟩ => ?_) hs rfl))
  obtain ⟨a, xs, ex, hq, q⟩ := q1
  subst ex
  cases r1 with
  | cons r rr =>
    cases rr
    cases r
    obtain ⟨its, rv, p', hz⟩ := I1.tuple hq
    have hlt := p'.lt
    refine enum_begins1 (begins_tuple a its.toArray) p' fun h' he hit hsz hk => wpAny_pyIter_enum he ?_
    have I2 : Inv X pins σ H1 { s1 with heap := h' } := I1.kept (t' := s1.toks) hk
    refine ⟨s1.heap.objs.size + 1, [s1.heap.objs.size + 1, s1.heap.objs.size], _, _, H1, rfl, I2, turn_enumT a (s1.heap.objs.size + 1) s1.heap.objs.size 0 (Nat.ne_of_lt (Nat.lt_succ_of_lt hlt)) (Nat.ne_of_lt hlt), ⟨⟨.none, he⟩, iterAt_of hit, Nat.succ_ne_self _⟩, fun b hb => ?_, q⟩
    have e' : b = s1.heap.objs.size + 1 ∨ b = s1.heap.objs.size := by simpa using hb
    have hle : s1.heap.objs.size ≤ b := by
      rcases e' with z | z
      · rw [z]; exact Nat.le_add_right _ _
      · rw [z]; exact Nat.le_refl _
    exact I1.fpOk hle (I1.hok.fresh hle)
theorem pi_enumT1 (hg : Gl X "enumerate") (hm : X.mg "enumerate" = none) (ha : PA X [e, e2] ta) (hs : starEach [e, e2] X.env = (false, eval e X.env) :: starEach [e2] X.env := by rfl) (hpl : (backTo pos (starEach [e2] X.env)).any (·.1) = false := by rfl) :
    PI X (.Tuple elts kk tpos) (.Call (.Name "enumerate" p) [e, e2] [] pos) (iEnumT1 X.K ta) := by
  refine ⟨fun pins s σ H R I h => ?_⟩
  refine Call_ (ld_blt I hg hm boot_enumerate (PyProof.Rows.callWith_type1 (thn (ha.run pos pins s σ H _ I h) fun us s1 ⟨vs, H1, I1, r1, q1⟩ => ?_) hs hpl))
  obtain ⟨a, xs, ex, hq, q⟩ := q1
  subst ex
  cases r1 with
  | cons r rr =>
    cases rr with
    | cons r' rr =>
      cases rr
      cases r
      obtain ⟨t, rfl⟩ := r'
      obtain ⟨its, rv, p', hz⟩ := I1.tuple hq
      have hlt := p'.lt
      refine enum_begins (begins_tuple a its.toArray) p' (by decide) (by decide) fun h' he hit hsz hk => wpAny_pyIter_enum he ?_
      have I2 : Inv X pins σ H1 { s1 with heap := h' } := I1.kept (t' := s1.toks) hk
      refine ⟨s1.heap.objs.size + 1, [s1.heap.objs.size + 1, s1.heap.objs.size], _, _, H1, rfl, I2, turn_enumT a (s1.heap.objs.size + 1) s1.heap.objs.size 1 (Nat.ne_of_lt (Nat.lt_succ_of_lt hlt)) (Nat.ne_of_lt hlt), ⟨⟨.none, he⟩, iterAt_of hit, Nat.succ_ne_self _⟩, fun b hb => ?_, q⟩
      have e' : b = s1.heap.objs.size + 1 ∨ b = s1.heap.objs.size := by simpa using hb
      have hle : s1.heap.objs.size ≤ b := by
        rcases e' with z | z
        · rw [z]; exact Nat.le_add_right _ _
        · rw [z]; exact Nat.le_refl _
      exact I1.fpOk hle (I1.hok.fresh hle)
end
theorem walk_enumT {K : PySem.W.Frag} {a : Addr} {k : Int} {xs : List V} : Walk (IteT K a k) xs.length (fun H => SqT K H a xs) (YPair (fun i => some (.int (k + (i : Nat)))) (fun i => xs[i]?)) := by
  refine ⟨fun i _ hi q => ⟨xs, xs[i], q, by simp [hi]⟩, fun _ q => ⟨xs, q, rfl⟩, fun i H v H' _ q y => ?_⟩
  obtain ⟨T, x, h1, h2, h3, h4⟩ := y
  exact ⟨T, .int (k + (i : Nat)), x, h1, h2, h3, rfl, h4 xs q⟩
/-! ### zip(list, tuple) -/
def ItzLT (K : PySem.W.Frag) (a b : Addr) : It :=
  ⟨fun i H => ∃ (xs ys : List V) (x y : V), SqL K H a xs ∧ SqT K H b ys ∧ xs[i]? = some x ∧ ys[i]? = some y,
    fun i H v H' => ∃ T x y, v = .ref T ∧ H T = none ∧ H' = upd H T (.tup [x, y]) ∧ (∀ xs, SqL K H a xs → xs[i]? = some x) ∧ ∀ ys, SqT K H b ys → ys[i]? = some y,
    fun i H => ∃ xs ys : List V, SqL K H a xs ∧ SqT K H b ys ∧ xs.length = i ∧ ys.length = i⟩
theorem turn_zipLT {P : Program} {w : World} {K : PySem.W.Frag} {elts : List Expr} {kk : Nat} {tpos : Pos} {a b z TI TO i1 i2 : Addr} (D : ZipSep2 z TI TO i1 i2 [i1, a] [i2, b]) (n1 : a ≠ i1) (n2 : b ≠ i2) :
    Turn P w K (.Tuple elts kk tpos) (ItzLT K a b) [z, TI, TO, i1, i2] z (fun i h => IsZip h z TI TO .none ∧ IsTupOf2 h TI (.ref i1) (.ref i2) ∧ (∃ x y, IsTupOf2 h TO x y) ∧ h.IsListIter i1 a i ∧ h.IsTupleIter i2 b i) where
  mem := by simp
  obj := fun i h st c hc => by
    obtain ⟨hz, hTI, ⟨x, y, hTO⟩, ⟨o1, e1, _, d1⟩, ⟨o2, e2, _, d2⟩⟩ := st
    have e' : c = z ∨ c = TI ∨ c = TO ∨ c = i1 ∨ c = i2 := by simpa using hc
    rcases e' with q | q | q | q | q
    · rw [q]; exact ⟨_, hz, fun v q => nomatch q⟩
    · rw [q]; exact ⟨_, hTI, fun v q => nomatch q⟩
    · rw [q]; exact ⟨_, hTO, fun v q => nomatch q⟩
    · rw [q]; exact ⟨o1, e1, fun v q => by rw [d1] at q; cases q⟩
    · rw [q]; exact ⟨o2, e2, fun v q => by rw [d2] at q; cases q⟩
  keep := fun i h h' st k => by
    obtain ⟨hz, hTI, ⟨x, y, hTO⟩, h1, h2⟩ := st
    exact ⟨k z (by simp) _ hz, k TI (by simp) _ hTI, ⟨x, y, k TO (by simp) _ hTO⟩, h1.at fun o q => k i1 (by simp) o q, h2.at fun o q => k i2 (by simp) o q⟩
  item := by
    intro X hP hw hK hc i pins s σ H E I hf st hg
    subst hP hw hK
    obtain ⟨hz, hTI, ⟨x0, y0, hTO⟩, h1, h2⟩ := st
    obtain ⟨xs, ys, x, y, hqx, hqy, hx, hy⟩ := hg
    obtain ⟨its, rv, p, _⟩ := I.list hqx
    obtain ⟨its2, rv2, p2, _⟩ := I.tuple hqy
    obtain ⟨u, hu, ru⟩ := rv.get hx
    obtain ⟨u2, hu2, ru2⟩ := rv2.get hy
    have hzl : z < s.heap.objs.size := Heap.lt_size hz
    have hh : X.A.in1.handled = none := I.ok.hd hc
    have l1 : i < its.toArray.size := by
      obtain ⟨q, _⟩ := List.getElem?_eq_some_iff.mp hu
      simpa using q
    have l2 : i < its2.toArray.size := by
      obtain ⟨q, _⟩ := List.getElem?_eq_some_iff.mp hu2
      simpa using q
    refine wpAny_pyNext_zipD2_item D (Draws.list hh i1 a n1 its.toArray) (Draws.tuple hh i2 b n2 its2.toArray) hz hTI hTO ⟨h1, p.isList⟩ ⟨h2, p2⟩ l1 l2 fun v1 v2 h' tk e1 e2 z' TO' s1' s2' hT hsz hk => ?_
    have ev1 : v1 = u := by
      have q : its[i]? = some v1 := by simpa using e1
      rw [hu] at q
      exact (Option.some.inj q).symm
    have ev2 : v2 = u2 := by
      have q : its2[i]? = some v2 := by simpa using e2
      rw [hu2] at q
      exact (Option.some.inj q).symm
    subst ev1 ev2
    obtain ⟨h1', _⟩ := s1'
    obtain ⟨h2', _⟩ := s2'
    refine ⟨_, rfl, wpAny_letOwnedTupleGo_zip (s := { s with heap := h', toks := tk }) z' fun h'' z'' sb => ?_⟩
    have hT2 : h''.get? s.heap.objs.size = some { cls := .type "tuple", data := .seq #[v1, v2] } := (sb.2 _ (Nat.ne_of_gt hzl)).trans hT
    have new : ObjOk X.prog X.w (upd H s.heap.objs.size (.tup [x, y])) h'' s.heap.objs.size (.tup [x, y]) :=
      ⟨by show 2 ≤ sizeLine; decide, [v1, v2], .cons ru (.cons ru2 .nil), ⟨_, hT2, rfl, _, rfl⟩⟩
    have I1 : Inv X pins σ (upd H s.heap.objs.size (.tup [x, y])) { s with heap := h'', toks := tk } :=
      I.turnedNew (ch := [z, TI, TO, i1, i2]) (fun c o hb q => (sb.2 c (fun q' => hb (by simp [q']))).trans (hk c o (fun q' => hb (by simp [q'])) (fun q' => hb (by simp [q'])) (fun q' => hb (by simp [q'])) (fun q' => hb (by simp [q'])) q)) hf (Nat.le_refl _) new
    refine ⟨.ref s.heap.objs.size, _, I1, rfl, ⟨_, x, y, rfl, I.hok.fresh (Nat.le_refl _), rfl, fun l hl => by rw [I.list_inj hl hqx]; exact hx, fun l hl => by rw [I.tuple_inj hl hqy]; exact hy⟩, ⟨z'', ?_, ⟨v1, v2, ?_⟩, ?_, ?_⟩, fun c hcm => ?_⟩
    · exact (sb.2 _ D.TIz).trans (hk _ _ D.TIz D.TITO D.TIi1 D.TIi2 hTI)
    · exact (sb.2 _ D.TOz).trans TO'
    · exact h1'.at fun o q => (sb.2 _ (Ne.symm D.zi1)).trans q
    · exact h2'.at fun o q => (sb.2 _ (Ne.symm D.zi2)).trans q
    · have hlt : c < s.heap.objs.size := by
        have e' : c = z ∨ c = TI ∨ c = TO ∨ c = i1 ∨ c = i2 := by simpa using hcm
        rcases e' with q | q | q | q | q
        · rw [q]; exact hzl
        · rw [q]; exact Heap.lt_size hTI
        · rw [q]; exact Heap.lt_size hTO
        · rw [q]; obtain ⟨_, e1, _⟩ := h1; exact Heap.lt_size e1
        · rw [q]; obtain ⟨_, e2, _⟩ := h2; exact Heap.lt_size e2
      rw [upd_ne (Nat.ne_of_lt hlt)]
      exact (hf c hcm).1
  done := by
    intro X hP hw hK hc i pins s σ H E I hf st hg
    subst hP hw hK
    obtain ⟨hz, hTI, ⟨x0, y0, hTO⟩, h1, h2⟩ := st
    obtain ⟨xs, ys, hqx, hqy, hl1, hl2⟩ := hg
    obtain ⟨its, rv, p, _⟩ := I.list hqx
    obtain ⟨its2, rv2, p2, _⟩ := I.tuple hqy
    have l1 := rv.length
    have l2 := rv2.length
    have hh : X.A.in1.handled = none := I.ok.hd hc
    have e1 : its.toArray.size = i := by simp; omega
    have e2 : its2.toArray.size = i := by simp; omega
    exact wpAny_pyNext_zipD2_end D (Draws.list hh i1 a n1 its.toArray) (Draws.tuple hh i2 b n2 its2.toArray) hz hTI hTO ⟨h1, p.isList⟩ ⟨h2, p2⟩ (Nat.le_of_eq e1.symm) (Nat.le_of_eq e2.symm) (.inl e1.symm) fun h' tk hk => ⟨rfl, I.turnedL (t' := tk) (ch := [z, TI, TO, i1, i2]) (fun c o hb q =>
      hk c o (fun q' => hb (by simp [q'])) (fun q' => hb (by simp [q'])) (fun q' => hb (by simp [q'])) (fun q' => hb (by simp [q'])) q) hf⟩
  self := fun A i s Q E st h => wpAny_pyIter_zip st.1 h
def iZipLT (K : PySem.W.Frag) (ta : TA) : TI := fun σ H R => ta σ H fun vs H1 => ∃ a b xs ys, vs = [.ref a, .ref b] ∧ SqL K H1 a xs ∧ SqT K H1 b ys ∧ R (ItzLT K a b) H1
theorem listIterAt_of {h : Heap} {i a : Addr} (e : h.get? i = some { cls := .type "list_iterator", data := .fields #[.ref a, .int 0 0] }) : h.IsListIter i a 0 := ⟨_, e, rfl, rfl⟩
theorem pi_zipLT {X : Cx} {e e2 : Expr} {ta : TA} {p pos tpos : Pos} {elts : List Expr} {kk : Nat} (hg : Gl X "zip") (hm : X.mg "zip" = none) (ha : PA X [e, e2] ta)
    (hs : starEach [e, e2] X.env = (false, eval e X.env) :: starEach [e2] X.env := by rfl) (hpl : (backTo pos (starEach [e2] X.env)).any (·.1) = false := by rfl) :
    PI X (.Tuple elts kk tpos) (.Call (.Name "zip" p) [e, e2] [] pos) (iZipLT X.K ta) := by
  refine ⟨fun pins s σ H R I h => ?_⟩
  refine Call_ (ld_blt I hg hm PyProof.Rows.boot_zip (PyProof.Rows.callWith_type1 (thn (ha.run pos pins s σ H _ I h) fun us s1 ⟨vs, H1, I1, r1, q1⟩ => ?_) hs hpl))
  obtain ⟨a, b, xs, ys, ex, hqx, hqy, q⟩ := q1
  subst ex
  cases r1 with
  | cons r rr =>
    cases rr with
    | cons r' rr =>
      cases rr
      cases r
      cases r'
      obtain ⟨its, rv, p1, _⟩ := I1.list hqx
      obtain ⟨its2, rv2, p2, _⟩ := I1.tuple hqy
      have la : a < s1.heap.objs.size := p1.lt
      have lb : b < s1.heap.objs.size := p2.lt
      refine zip_begins2 (begins_list a its.toArray) (begins_tuple b its2.toArray) p1.isList p2 fun h' hz hTI hTO h1 h2 hsz hk => wpAny_pyIter_zip hz ?_
      have I2 : Inv X pins σ H1 { s1 with heap := h' } := I1.kept (t' := s1.toks) hk
      refine ⟨s1.heap.objs.size + 4, [s1.heap.objs.size + 4, s1.heap.objs.size + 2, s1.heap.objs.size + 3, s1.heap.objs.size, s1.heap.objs.size + 1], _, _, H1, rfl, I2,
        turn_zipLT (zip_sep2 (fp1 := [a]) (fp2 := [b]) (fun c hc => by rw [List.mem_singleton.mp hc]; exact la) (fun c hc => by rw [List.mem_singleton.mp hc]; exact lb)) (Nat.ne_of_lt la) (Nat.ne_of_lt (Nat.lt_succ_of_lt lb)), ⟨hz, hTI, ⟨_, _, hTO⟩, listIterAt_of h1, iterAt_of h2⟩, fun c hcm => ?_, q⟩
      have e' : c = s1.heap.objs.size + 4 ∨ c = s1.heap.objs.size + 2 ∨ c = s1.heap.objs.size + 3 ∨ c = s1.heap.objs.size ∨ c = s1.heap.objs.size + 1 := by simpa using hcm
      have hle : s1.heap.objs.size ≤ c := by
        rcases e' with z | z | z | z | z
        · rw [z]; exact Nat.le_add_right _ _
        · rw [z]; exact Nat.le_add_right _ _
        · rw [z]; exact Nat.le_add_right _ _
        · rw [z]; exact Nat.le_refl _
        · rw [z]; exact Nat.le_add_right _ _
      exact I1.fpOk hle (I1.hok.fresh hle)
theorem walk_zipLT {K : PySem.W.Frag} {a b : Addr} {xs ys : List V} (hn : ys.length = xs.length) : Walk (ItzLT K a b) xs.length (fun H => SqL K H a xs ∧ SqT K H b ys) (YPair (fun i => xs[i]?) (fun i => ys[i]?)) := by
  refine ⟨fun i _ hi q => ?_, fun _ q => ⟨xs, ys, q.1, q.2, rfl, hn⟩, fun i H v H' _ q y => ?_⟩
  · have h2 : i < ys.length := by omega
    exact ⟨xs, ys, xs[i], ys[i], q.1, q.2, by simp [hi], by simp [h2]⟩
  · obtain ⟨T, x, z, h1, h2, h3, h4, h5⟩ := y
    exact ⟨T, x, z, h1, h2, h3, h4 xs q.1, h5 ys q.2⟩
/-! ### sum(t), t.count(k), t a tuple of ints -/
def rSumT (K : PySem.W.Frag) : List V → Hp → VK → Prop := fun vs H Q => ∃ (a : Addr) (ns : List Int), vs = [V.ref a] ∧ SqT K H a (ns.map V.int) ∧ Q (.int ns.sum) H
theorem cr_sumT {X : Cx} (hc : X.calm = true) : CallR X (.builtin "sum") (rSumT X.K) := by
  intro pins s σ H vs us Q I r h
  obtain ⟨a, ns, rfl, hs, q⟩ := h
  obtain ⟨its, rv, hl, _⟩ := I.tuple hs
  rw [Vals.ref1 r]
  have hi : IntsAre its ns := rv.ints
  obtain ⟨xs, hx⟩ := hi.allInts.items
  have hn : numsOf its.toArray.toList = ns := by rw [show its.toArray.toList = its from rfl, hi.numsOf]
  rw [hx] at hl hn
  rw [nums_intItems] at hn
  refine PySem.W.ktm_sumG (I.ok.hd hc) hl fun h' tk t' hk => ⟨.int _, H, I.kept hk, ⟨_, rfl⟩, ?_⟩
  rw [preSum_eq, List.take_of_length_le (by simp), hn]
  exact q
end K51
/-! K51Q: more rules of our own: count of a tuple, len of a set of tuples, sorted of tuples of ints. -/
namespace K51
open PySem PySem.Spec PyProof.Rows L2
/-! ### t.count(k) -/
def rCntT (K : PySem.W.Frag) : V → List V → Hp → VK → Prop := fun x xs H Q => ∃ (p : Addr) (ns : List Int) (k : Int), x = .ref p ∧ xs = [.int k] ∧ SqT K H p (ns.map V.int) ∧ Q (.int (ns.count k : Nat)) H
theorem mt_tcount {X : Cx} : MtR X "tuple.count" (rCntT X.K) := by
  intro pins s σ H x xs v us Q I rx rxs h
  obtain ⟨p, ns, k, rfl, rfl, hs, q⟩ := h
  cases rx
  obtain ⟨u, rfl, ru⟩ := rxs.one
  obtain ⟨t, rfl⟩ := ru
  obtain ⟨its, rv, ⟨⟨cls, dd, data, sl⟩, ho, hc, n, hd⟩, hlen⟩ := I.tuple hs
  simp only at hc hd
  subst hc hd
  have hi := rv.ints
  refine call_meets PySem.F.slot_tuple_count ⟨_, ho, rfl⟩ PySem.F.entry_tuple_count (PySem.F.args_tuple_count_2 _ _)
    (SeqAt.tuple_countAt p its.toArray n dd sl (.int k t) (eqk k)) ⟨ho, fun y hy => (eqk_gives hi y (by simpa using hy)).at _ _, ?_⟩
  have ec : its.toArray.toList.countP (eqk k) = ns.count k := eqk_count hi
  refine ⟨.int (ns.count k : Nat), H, I.tok _, ⟨s.toks, ?_⟩, q⟩
  show Value.int ((its.toArray.toList.countP (eqk k) : Nat) : Int) s.toks = Value.int ((ns.count k : Nat) : Int) s.toks
  rw [ec]
/-- tuple(xs): the new tuple, known to the object -/
def TupFrz (H : Hp) (a : Addr) (xs : List V) : Prop := ∃ o : Obj, o.cls = .type "tuple" ∧ o.dict = none ∧ H a = some (.frz o (.tup xs))
theorem TupFrz.sq {K : PySem.W.Frag} {H : Hp} {a : Addr} {xs : List V} (h : TupFrz H a xs) : SqT K H a xs := by
  obtain ⟨o, _, _, e⟩ := h
  exact .inl (.inr ⟨o, e⟩)
def rTupF (K : PySem.W.Frag) : List V → Hp → VK → Prop := fun xs H Q => ∃ p ys, xs = [.ref p] ∧ SqL K H p ys ∧ ∀ l (o : Obj), o.cls = .type "tuple" → o.dict = none → H l = none → Q (.ref l) (upd H l (.frz o (.tup ys)))
theorem call_tupleF {X : Cx} : CallR X (.type "tuple") (rTupF X.K) := by
  intro pins s σ H xs us Q I r h
  obtain ⟨p, ys, rfl, hq, q⟩ := h
  obtain ⟨u, rfl, rx⟩ := vals1 r
  cases rx
  obtain ⟨its, r', pl, hz⟩ := I.list hq
  have hlen := r'.length
  refine call_tuple_list pl.isList (fun h' kp => ?_) (by simp only [List.size_toArray] <;> omega)
  have I1 : Inv X pins σ H { s with heap := h' } := I.kept (t' := s.toks) kp
  have I2 : Inv X pins σ (upd H h'.objs.size (.frz { cls := .type "tuple", data := .seq its.toArray } (.tup ys))) { s with heap := h'.push { cls := .type "tuple", data := .seq its.toArray } } :=
    I1.laid (t' := s.toks) (fun b o e => Heap.get?_push_of_some _ e) (Nat.le_refl _) (show ObjOk X.prog X.w _ _ _ (.frz _ (.tup ys)) from ⟨Heap.get?_push_size _ rfl, hz, its, r', IsTup.new _ _⟩)
  exact ⟨.ref h'.objs.size, _, I2, rfl, q _ _ rfl rfl (I1.hok.fresh (Nat.le_refl _))⟩
/-- a method of such a tuple -/
def tBMT (r : V → List V → Hp → VK → Prop) (to : TE) (t : TA) : TE := fun σ H Q => to σ H fun x H1 => (∃ a xs, x = .ref a ∧ TupFrz H1 a xs) ∧ t σ H1 fun xs H2 => r x xs H2 Q
theorem pe_bmT {X : Cx} {o e : Expr} {es : List Expr} {to : TE} {t : TA} {name : Str} {apos cpos : Pos} {id : String} {r : V → List V → Hp → VK → Prop} (pa : PlainAttrs "tuple") (slot : Slot "tuple" name id) (hty : typeOf (.builtin id) = pure (.type "method_descriptor")) (hm : MtR X id r) (ho : PE X o to) (ha : PA X (e :: es) t)
    (hbase : attributeBase o name X.env (eval o X.env) = eval o X.env := by rfl)
    (hfew : ((backTo cpos (starEach (e :: es) X.env)).all (fun x => !x.1) && (backToKw cpos (keywordEach [] X.env)).all (fun x => x.1.isSome)
      && decide ((e :: es).length + ([] : List Keyword).length + (if ([] : List Keyword).isEmpty then 0 else 1) < 30)) = true := by rfl)
    (hline : (apos.endLine == cpos.line) = true := by rfl) (hs : starEach (e :: es) X.env = (false, eval e X.env) :: starEach es X.env := by rfl) (hplain : (backTo cpos (starEach es X.env)).any (·.1) = false := by rfl) :
    PE X (.Call (.Attribute o name apos) (e :: es) [] cpos) (tBMT r to t) := by
  refine ⟨fun pins s σ H Q I h => ?_⟩
  refine wpAny_Call_method_late hbase hfew hline rfl (thn (ho.run pins s σ H _ I h) fun v s1 ⟨x, H1, I1, r1, ⟨a, xs, ex, ob, c1, c2, c3⟩, q1⟩ => ?_)
  subst ex
  cases r1
  have hg : s1.heap.get? a = some ob := (I1.hok a _ c3).1
  refine ⟨"tuple", id, pa, slot, hty, ⟨ob, hg, c1⟩, fun b e => ?_, ?_⟩
  · cases e
    exact ⟨ob, hg, c2⟩
  · have hA := ha.run cpos pins s1 σ H1 _ I1 q1
    rw [hs] at hA ⊢
    refine Calls.callWith_builtin (by show (false || (backTo cpos (starEach es X.env)).any (·.1)) = false; rw [hplain] <;> rfl) (Calls.evalArgs_plain ?_)
    exact thn hA fun us s2 ⟨vs, H2, I2, r2, q2⟩ => hm pins s2 σ H2 (.ref a) vs _ us Q I2 rfl r2 q2
/-! ### len(s), s a set of tuples -/
def rLenSetT (P : Program) (w : World) : List V → Hp → VK → Prop := fun xs H Q => ∃ (a : Addr) (L : List (Addr × List Int)), xs = [.ref a] ∧ H a = some (SetTO P w a L) ∧ ((L.map (·.2)).Nodup → Q (.int (L.length : Nat)) H)
theorem call_lenSetT {X : Cx} : CallR X (.builtin "len") (rLenSetT X.prog X.w) := by
  intro pins s σ H xs us Q I r h
  obtain ⟨a, L, rfl, ha, q⟩ := h
  rw [Vals.ref1 r]
  have hok : ObjOk X.prog X.w H s.heap a (SetTO X.prog X.w a L) := I.hok a _ ha
  obtain ⟨R, _, _⟩ := hok
  obtain ⟨es, ep, t, ⟨o, ho, hex, hd⟩, rows, tab, nd, pl, led, room, few⟩ := SetT0.ex R
  have hz : es.size = L.length := by
    have h := congrArg List.length rows
    unfold rowsOf at h
    rw [Array.length_toList, List.length_map] at h
    exact h
  have hf : t.fits es.size = true := by
    have h1 := tab.sz
    rw [List.length_map] at h1
    unfold SetTable.fits SetTable.fill
    rw [tab.dm, Bool.and_eq_true, beq_iff_eq, decide_eq_true_eq]
    show t.place.size = es.size ∧ t.place.size + 0 ≤ t.mask
    omega
  refine PySem.call_len_set ho hex hd hf (by omega) ⟨.int (L.length : Nat), H, I.tok _, ⟨_, by rw [hz]⟩, q nd⟩
/-! ### sorted(xs), xs a list of tuples of ints -/
/-- the order of such tuples -/
def ltI : List Int → List Int → Bool
  | [], [] => false
  | [], _ :: _ => true
  | _ :: _, [] => false
  | x :: r, y :: t => decide (x < y) || (!decide (y < x) && ltI r t)
theorem ltI_lex : ∀ a b : List Int, PyProof.Rows.lexLt itemOrd (a.map Sum.inl) (b.map Sum.inl) = ltI a b
  | [], [] => rfl
  | [], _ :: _ => rfl
  | _ :: _, [] => rfl
  | x :: r, y :: t => by
    rw [List.map_cons, List.map_cons, PyProof.Rows.lex_cons, ltI_lex r t]
    rfl
theorem tupItems_ints : ∀ {us : List Value} {ns : List Int} (i : Nat), IntsAre us ns → PyProof.Rows.tupItems (fun _ => false) i us = some (ns.map Sum.inl)
  | _, _, _, .nil => by simp [PyProof.Rows.tupItems]
  | _, _, i, .cons _ _ h2 => by
    have ih := tupItems_ints (i + 1) h2
    simp [PyProof.Rows.tupItems, ih]
def rSortQ (K : PySem.W.Frag) : List V → Hp → VK → Prop := fun vs H Q => ∃ (a : Addr) (xs : List V), vs = [V.ref a] ∧ SqL K H a xs ∧ (∀ x ∈ xs, ∃ n ns, TupI K H x (n :: ns)) ∧
  ∀ (ys : List V) (p : Addr), ys.Perm xs → ys.Pairwise (fun x y => ∀ n m, TupI K H x n → TupI K H y m → ltI m n = false) → H p = none → Q (.ref p) (upd H p (.lst ys))
section
variable {X : Cx}
theorem tupI_key {pins : List (Addr × Obj)} {σ : L2.St} {H : Hp} {s : Shared} {t : Addr} {n : List Int} (I : Inv X pins σ H s) (h : SqT X.K H t (n.map V.int)) :
    PyProof.Rows.G.tupKeyC s.heap (fun _ => false) (.ref t) = some (n.map Sum.inl) := by
  obtain ⟨its, r, ⟨o, ho, hc, k, hd⟩, _⟩ := I.tuple h
  have h1 : PyProof.Rows.G.isTupObj s.heap (.ref t) = true := by
    unfold PyProof.Rows.G.isTupObj
    simp only [ho, hc]
    rfl
  unfold PyProof.Rows.G.tupKeyC
  rw [if_pos h1]
  unfold PyProof.Rows.tupKey
  simp only [ho, hd]
  exact tupItems_ints 0 r.ints
theorem tupsOf_vals {h : Heap} : ∀ {us : List Value}, (∀ u ∈ us, ∃ f, PyProof.Rows.TupOf h (fun _ => false) u f) → ∃ fs, PyProof.Rows.TupsOf h (fun _ => false) us fs
  | [], _ => ⟨[], .nil⟩
  | u :: us, hh => by
    obtain ⟨f, hf⟩ := hh u List.mem_cons_self
    obtain ⟨fs, hfs⟩ := tupsOf_vals fun v hv => hh v (List.mem_cons_of_mem _ hv)
    exact ⟨f :: fs, .cons hf hfs⟩
theorem cr_sortQ : CallR X (.builtin "sorted") (rSortQ X.K) := by
  intro pins s σ H vs us Q I r h
  obtain ⟨a, xs, rfl, hs, hx, q⟩ := h
  obtain ⟨its, rv, hl, hz⟩ := I.list hs
  rw [Vals.ref1 r]
  obtain ⟨e1, e2⟩ := bkV_refs rv fun x m => by
    obtain ⟨n, ns, t, e, _⟩ := hx x m
    exact ⟨t, e⟩
  have hkey : ∀ u ∈ its, ∃ (t : Addr) (n : Int) (ns : List Int), u = Value.ref t ∧ SqT X.K H t ((n :: ns).map V.int) := fun u hu => by
    obtain ⟨t, rfl⟩ := e2 u hu
    have hm : V.ref t ∈ xs := by
      rw [e1]
      exact List.mem_map.mpr ⟨_, hu, rfl⟩
    obtain ⟨n, ns, t', e, ht⟩ := hx _ hm
    cases e
    exact ⟨t, n, ns, rfl, ht⟩
  obtain ⟨fs, hfs⟩ := tupsOf_vals (h := s.heap) (us := its) fun u hu => by
    obtain ⟨t, n, ns, rfl, ht⟩ := hkey u hu
    obtain ⟨ws, r2, ⟨o, ho, hc, k, hd⟩, _⟩ := I.tuple ht
    obtain ⟨w, hw, rw'⟩ := r2.get (i := 0) (x := V.int n) rfl
    exact ⟨w, t, o, ws.toArray, k, rfl, ho, hc, hd, by simpa using hw, fun _ => ⟨n, rw'⟩, fun z => absurd z (by decide)⟩
  refine PyProof.Rows.G.sorted_tups (shape := fun _ => false) hl.isList hfs (fun v hv => ?_) (by rw [← rv.length]; exact hz) fun st h1 h2 _ => ?_
  · obtain ⟨t, n, ns, rfl, ht⟩ := hkey v hv
    exact ⟨_, tupI_key I ht⟩
  · have hpm : (arrOf st).toList.Perm (its.zip its) := by
      have := h1.toList
      rwa [pairsOf_toList] at this
    have hm1 : ∀ p ∈ (arrOf st).toList, p.1 = p.2 ∧ p.1 ∈ its := fun p hp => mem_zip_self (hpm.mem_iff.mp hp)
    have hout : ((arrOf st).map (·.2)).toList.Perm its := by
      have z := hpm.map Prod.snd
      rw [List.map_snd_zip (Nat.le_refl _)] at z
      simpa using z
    have h3 : ∀ u ∈ ((arrOf st).map (·.2)).toList, ∃ a, u = Value.ref a := fun u hu => e2 u (hout.mem_iff.mp hu)
    obtain ⟨ep, he'⟩ := PyProof.Rows.sortedAll_at s.heap its ((arrOf st).map (·.2))
    have hp : (((arrOf st).map (·.2)).toList.map bkV).Perm xs := by
      rw [e1]
      exact hout.map bkV
    have hlen : (((arrOf st).map (·.2)).toList.map bkV).length ≤ sizeLine := by
      rw [hp.length_eq]
      exact hz
    refine ⟨.ref _, upd H (s.heap.objs.size + 1) (.lst (((arrOf st).map (·.2)).toList.map bkV)), I.laid (t' := s.toks) (fun _ _ => PyProof.Rows.sortedAll_old) (Nat.le_succ _) ⟨hlen, ((arrOf st).map (·.2)).toList, ep, bkV_vals h3, he'⟩, rfl, q _ _ hp ?_ (I.hok.fresh (Nat.le_succ _))⟩
    rw [List.pairwise_map, Array.toList_map, List.pairwise_map, List.pairwise_iff_getElem]
    intro i j hi hj hij n m hn hm
    obtain ⟨t, et, ht⟩ := hn
    obtain ⟨t', et', ht'⟩ := hm
    have eu := bkV_ref et
    have ev := bkV_ref et'
    have hsz : (arrOf st).toList.length = (pairsOf its).size := by
      rw [pairsOf_size, hpm.length_eq, List.length_zip, Nat.min_self]
    have key := h2 i j (Nat.le_of_lt hij) (by rw [← hsz]; exact hj)
    have k1 : KK (PyProof.Rows.G.tupKindC s.heap fun _ => false) (arrOf st) i = n.map Sum.inl := by
      unfold KK
      rw [show (arrOf st)[i]? = some ((arrOf st).toList[i]) by rw [← Array.getElem?_toList, List.getElem?_eq_getElem hi]]
      show ((PyProof.Rows.G.tupKeyC s.heap _ ((arrOf st).toList[i]).1).getD []) = _
      rw [(hm1 _ (List.getElem_mem hi)).1, eu, tupI_key I ht]
      rfl
    have k2 : KK (PyProof.Rows.G.tupKindC s.heap fun _ => false) (arrOf st) j = m.map Sum.inl := by
      unfold KK
      rw [show (arrOf st)[j]? = some ((arrOf st).toList[j]) by rw [← Array.getElem?_toList, List.getElem?_eq_getElem hj]]
      show ((PyProof.Rows.G.tupKeyC s.heap _ ((arrOf st).toList[j]).1).getD []) = _
      rw [(hm1 _ (List.getElem_mem hj)).1, ev, tupI_key I ht']
      rfl
    rw [k1, k2] at key
    have : PyProof.Rows.lexLt itemOrd (m.map Sum.inl) (n.map Sum.inl) = false := key
    rw [ltI_lex] at this
    exact this
end
end K51
/-! K51M: the mirror (plain Lean). -/
namespace K51
/-- a circle -/
structure Ci where
  b : Int
  c : Int
  x : Int
  y : Int
  deriving DecidableEq
abbrev Fo := List Ci

def isC (p : Ci) : Bool := p.x * p.x + p.y * p.y - p.b * p.c == 1
def dbl (p q : Ci) : Int := 2 * (p.x * q.x + p.y * q.y) - (p.b * q.c + q.b * p.c)
def outw (p q : Ci) : Bool := decide (0 < p.b + q.b) || (decide (p.b + q.b = 0) && decide (0 < p.c + q.c))
def tch (p q : Ci) : Bool := decide (dbl p q = -2) && outw p q
/-- small enough for the multiplication rule -/
def sm (p : Ci) : Bool := decide (p.b.natAbs < 1099511627776) && decide (p.c.natAbs < 1099511627776) && decide (p.x.natAbs < 1099511627776) && decide (p.y.natAbs < 1099511627776)
def okF : Fo → Bool
  | [p, q, r, s] => isC p && isC q && isC r && isC s && tch q p && tch r p && tch r q && tch s p && tch s q && tch s r && sm p && sm q && sm r && sm s
  | _ => false
/-- the other circle at number k (1 to 4) -/
def oth (F : Fo) (k : Nat) : Ci :=
  match F with
  | [p, q, r, s] =>
    match k with
    | 1 => ⟨2 * (q.b + r.b + s.b) - p.b, 2 * (q.c + r.c + s.c) - p.c, 2 * (q.x + r.x + s.x) - p.x, 2 * (q.y + r.y + s.y) - p.y⟩
    | 2 => ⟨2 * (p.b + r.b + s.b) - q.b, 2 * (p.c + r.c + s.c) - q.c, 2 * (p.x + r.x + s.x) - q.x, 2 * (p.y + r.y + s.y) - q.y⟩
    | 3 => ⟨2 * (p.b + q.b + s.b) - r.b, 2 * (p.c + q.c + s.c) - r.c, 2 * (p.x + q.x + s.x) - r.x, 2 * (p.y + q.y + s.y) - r.y⟩
    | _ => ⟨2 * (p.b + q.b + r.b) - s.b, 2 * (p.c + q.c + r.c) - s.c, 2 * (p.x + q.x + r.x) - s.x, 2 * (p.y + q.y + r.y) - s.y⟩
  | _ => ⟨0, 0, 0, 0⟩
def exch (F : Fo) (k : Nat) : Fo :=
  match F with
  | [p, q, r, s] =>
    match k with
    | 1 => [oth F 1, q, r, s]
    | 2 => [p, oth F 2, r, s]
    | 3 => [p, q, oth F 3, s]
    | _ => [p, q, r, oth F 4]
  | F => F
def at4 (F : Fo) (w : List Nat) : Fo := w.foldl exch F
/-- the place of the greatest above the sum of the others -/
def gp (F : Fo) : Option Nat :=
  match F with
  | [p, q, r, s] =>
    let t := p.b + q.b + r.b + s.b
    if t < 2 * p.b then some 1 else if t < 2 * q.b then some 2 else if t < 2 * r.b then some 3 else if t < 2 * s.b then some 4 else none
  | _ => none
def wd : Nat → Fo → Option (List Nat × Fo)
  | 0, _ => none
  | n + 1, F => match gp F with
    | none => some ([], F)
    | some k => if okF (exch F k) then (wd n (exch F k)).map fun p => (k :: p.1, p.2) else none
def stepK (m : Int) (F : Fo) (last : Nat) : List Nat → List Ci → List (Fo × Nat) → Option (List Ci × List (Fo × Nat))
  | [], fd, wt => some (fd, wt)
  | k :: ks, fd, wt =>
    if k = last then stepK m F last ks fd wt
    else if m < (oth F k).b then stepK m F last ks fd wt
    else if decide (fd.length < 50) && okF (exch F k) then stepK m F last ks (fd ++ [oth F k]) (wt ++ [(exch F k, k)])
    else none
def srun (m : Int) : Nat → List Ci → List (Fo × Nat) → Option (List Ci)
  | 0, _, _ => none
  | n + 1, fd, wt => match wt.getLast? with
    | none => some fd
    | some (F, last) => match stepK m F last [1, 2, 3, 4] fd wt.dropLast with
      | some (fd', wt') => srun m n fd' wt'
      | none => none
def sstart (m : Int) (R : Fo) : List Ci := R.filter fun p => decide (p.b ≤ m)
def strip (F : Fo) : Bool := (F.map (·.b)).count 0 == 2

/-! the law's own -/
def ldbl (p q : Ci) : Int := 2 * (p.x * q.x + p.y * q.y) - p.b * q.c - p.c * q.b
def eig (F : Fo) (p : Ci) : List Int :=
  let ds := F.map (ldbl p)
  ds.map fun d => 2 * d - ds.sum
def isU (k : List Int) : Bool := k.isPerm [0, 0, 0, 1]
def low (k : List Int) : List Nat := [0, 1, 2, 3].filter fun j => decide (k.getD j 0 < 0)
def stp (k : List Int) (j : Nat) : List Int := [0, 1, 2, 3].map fun i => if i ≠ j then k.getD i 0 + 2 * k.getD j 0 else - k.getD j 0
def addrGo : Nat → List Int → Bool
  | 0, _ => false
  | n + 1, k => if isU k then true else match low k with
    | [j] => if k.sum ≤ 1 then false else addrGo n (stp k j)
    | _ => false
def addr (F : Fo) (p : Ci) : Bool := if (eig F p).any fun e => decide (0 < e % 8) then false else addrGo 2000 ((eig F p).map (· / 8))
def irange (lo : Int) (n : Nat) : List Int := (List.range n).map fun (i : Nat) => lo + (i : Int)
def gridRow (b x : Int) : List Ci := (irange (-2 * b - 2) (4 * b + 5).toNat).filterMap fun y =>
  if (x * x + y * y - 1) % b = 0 then some ⟨b, (x * x + y * y - 1) / b, x, y⟩ else none
def grid (b : Int) : List Ci := (irange (-2 * b - 2) (4 * b + 5).toNat).flatMap (gridRow b)
def found (F : Fo) (b : Int) : List Ci := (grid b).filter (addr F)

def base (n : Int) : Fo := [⟨-n, 0, 1, 0⟩, ⟨n + 1, 0, -1, 0⟩, ⟨n * (n + 1), 4, -2 * n - 1, 0⟩, ⟨n * (n + 1) + 1, 4, -2 * n - 1, 2⟩]
def turn : Nat → Int × Int → Int × Int
  | 0, p => p
  | n + 1, p => turn n (-p.2, p.1)
def moved (p : Ci) (s t : Int) (q : Nat) (f : Bool) : Ci :=
  let z := turn q (p.x, p.y)
  let x := if f then -z.1 else z.1
  let y := z.2
  ⟨p.b, p.c + 2 * (x * s + y * t) + p.b * (s * s + t * t), x + p.b * s, y + p.b * t⟩
def root0 (n : Int) (q : Nat) (f : Bool) : Fo := (base n).map fun p => moved p 0 0 q f
def root (n : Int) (q : Nat) (f : Bool) : Fo :=
  let R := root0 n q f
  R.map fun p => if n = 1 then moved p (-(R.getD 0 ⟨0,0,0,0⟩).x * (R.getD 0 ⟨0,0,0,0⟩).b) (-(R.getD 0 ⟨0,0,0,0⟩).y * (R.getD 0 ⟨0,0,0,0⟩).b) 0 false else p
def letters (w : List Nat) : List Nat := [1, 2, 3, 4].filter fun l => decide (w = []) || decide (w.getLast? ≠ some l)
def wordsN : Nat → List (List Nat)
  | 0 => [[]]
  | n + 1 => (wordsN n).flatMap fun w => (letters w).map fun l => w ++ [l]
def words : List (List Nat) := wordsN 0 ++ wordsN 1 ++ wordsN 2 ++ wordsN 3
def roots : List Fo := [1, 2].flatMap fun n => [0, 1, 2, 3].flatMap fun q => [false, true].map fun f => root n q f
/-- the circles of the heap up to 9 -/
def L9 (R : Fo) : List Ci := ((srun 9 100 (sstart 9 R) [(R, 0)]).getD [])
end K51
/-! K51W1: words of the heap; circles. -/
namespace K51
open PySem L2
/-! ### words of the heap -/
def cv (p : Ci) : List V := [.int p.b, .int p.c, .int p.x, .int p.y]
def CiAt (H : Hp) (v : V) (p : Ci) : Prop := ∃ a, v = .ref a ∧ H a = some (.tup (cv p))
abbrev CisAt (H : Hp) (vs : List V) (F : List Ci) : Prop := Paired (CiAt H) vs F
def FourAt (C : Addr) (H : Hp) (v : V) (F : Fo) : Prop := ∃ a dx t vs, v = .ref a ∧ H a = some (.ins C dx [("circles", .ref t)]) ∧ H t = some (.tup vs) ∧ CisAt H vs F
theorem CiAt.same {H H' : Hp} {v : V} {p : Ci} (h : CiAt H v p) (s : Same H H') : CiAt H' v p := by
  obtain ⟨a, e, q⟩ := h
  exact ⟨a, e, s _ _ q⟩
theorem CisAt.same {H H' : Hp} {vs : List V} {F : List Ci} (h : CisAt H vs F) (s : Same H H') : CisAt H' vs F := Paired.mapP h fun _ _ q => q.same s
theorem FourAt.same {C : Addr} {H H' : Hp} {v : V} {F : Fo} (h : FourAt C H v F) (s : Same H H') : FourAt C H' v F := by
  obtain ⟨a, dx, t, vs, e, h1, h2, h3⟩ := h
  exact ⟨a, dx, t, vs, e, s _ _ h1, s _ _ h2, CisAt.same h3 s⟩
theorem same_upd {H : Hp} {p : Addr} {o : HO} (h : H p = none) : Same H (upd H p o) := fun b x e => by
  rw [upd_ne (ne_of_none e h)]
  exact e
theorem Same.new {H H' : Hp} {p : Addr} {o : HO} (s : Same H H') (h : H' p = none) : Same H (upd H' p o) := s.trans (same_upd h)
theorem sqT {K : PySem.W.Frag} {H H' : Hp} {a : Addr} {xs : List V} (e : Same H H') (h : SqT K H a xs) : SqT K H' a xs := by
  rcases h with (h | ⟨o, h⟩) | h
  · exact .inl (.inl (e _ _ h))
  · exact .inl (.inr ⟨o, e _ _ h⟩)
  · exact .inr h
theorem mulb {p : Ci} (h : sm p = true) (j : Int) : CMul p.b j := by
  unfold sm at h
  simp only [Bool.and_eq_true, decide_eq_true_eq] at h
  exact .inl (by omega)
theorem mulc {p : Ci} (h : sm p = true) (j : Int) : CMul p.c j := by
  unfold sm at h
  simp only [Bool.and_eq_true, decide_eq_true_eq] at h
  exact .inl (by omega)
theorem mulx {p : Ci} (h : sm p = true) (j : Int) : CMul p.x j := by
  unfold sm at h
  simp only [Bool.and_eq_true, decide_eq_true_eq] at h
  exact .inl (by omega)
theorem muly {p : Ci} (h : sm p = true) (j : Int) : CMul p.y j := by
  unfold sm at h
  simp only [Bool.and_eq_true, decide_eq_true_eq] at h
  exact .inl (by omega)
theorem dec_int' {i j : Int} : decide (V.int i = V.int j) = decide (i = j) := by rw [dec_int, Bool.beq_eq_decide_eq]
theorem mul2 (j : Int) : CMul 2 j := .inl (by omega)
section
variable {P : Program} {w : World} {K : PySem.W.Frag} {mg : Str → Option Value} {base : Heap}
/-! ### is_circle -/
def sp_isCircle : Sp := fun vs H Q _ => ∃ v p, vs = [v] ∧ CiAt H v p ∧ sm p = true ∧ Q (.bl (isC p)) H
theorem sc_isCircle : FnScope ["circle", "b", "c", "x", "y"] ["circle"] (defScope s_isCircle) := ⟨rfl, rfl, rfl, by decide +kernel, rfl, by decide +kernel, by decide +kernel⟩
theorem ok_isCircle (T : Txt K mg) : FnOk P w K mg base CX0 1 T.f_isCircle T.d_isCircle ["circle"] sp_isCircle := by
  refine T.F_isCircle.ok sc_isCircle (fun vs H Q E h => ?_) (fun cdv A outer s H vs Q E hr h => ?_)
  · obtain ⟨v, p, rfl, _⟩ := h
    rfl
  · obtain ⟨v, p, rfl, ⟨a, rfl, ha⟩, hs, k⟩ := h
    refine ⟨_, pss_cons (ps_if (pt_cmpR op_ne (pe_callB call_len_seq (by rfl) T.b_len PySem.boot_len (pa_cons (pv 0) pa_nil)) pe_int (nomark _)) (pss_one (ps_ret pe_bl)) pss_nil)
      (pss_cons (ps_asg (pv 0) (pg_tup rfl (pgs_cons (pg_name (i := 1) sc_isCircle.nd rfl (.inl rfl)) (pgs_cons (pg_name (i := 2) sc_isCircle.nd rfl (.inl rfl)) (pgs_cons (pg_name (i := 3) sc_isCircle.nd rfl (.inl rfl)) (pgs_cons (pg_name (i := 4) sc_isCircle.nd rfl (.inl rfl)) pgs_nil))))))
      (pss_one (ps_ret (pe_cmpR op_eq (pe_op op_sub (pe_op op_add (pe_op op_mul (pv 3) (pv 3)) (pe_op op_mul (pv 4) (pv 4))) (pe_op op_mul (pv 1) (pv 2))) pe_int (nomark _))))), ?_⟩
    refine ⟨_, rfl, a, _, rfl, .inr (SqT.of ha), rfl, _, rfl, iteF ?_⟩
    refine ⟨_, rfl, a, _, rfl, SqT.of ha, rfl, _, _, rfl, _, _, rfl, _, _, rfl, _, _, rfl, rfl, ?_⟩
    refine ⟨_, rfl, _, rfl, _, _, rfl, rfl, mulx hs _, _, rfl, _, rfl, _, _, rfl, rfl, muly hs _, _, _, rfl, rfl, _, rfl, _, rfl, _, _, rfl, rfl, mulb hs _, _, _, rfl, rfl, rfl, ?_⟩
    rw [dec_int]
    exact k
/-! ### check_circle -/
def sp_checkCircle : Sp := fun vs H Q _ => ∃ v p, vs = [v] ∧ CiAt H v p ∧ sm p = true ∧ isC p = true ∧ Q .non H
theorem sc_checkCircle : FnScope ["circle"] ["circle"] (defScope s_checkCircle) := ⟨rfl, rfl, rfl, by decide +kernel, rfl, by decide +kernel, by decide +kernel⟩
theorem ok_checkCircle (T : Txt K mg) : FnOk P w K mg base CX0 2 T.f_checkCircle T.d_checkCircle ["circle"] sp_checkCircle := by
  refine T.F_checkCircle.ok sc_checkCircle (fun vs H Q E h => ?_) (fun cdv A outer s H vs Q E hr h => ?_)
  · obtain ⟨v, p, rfl, _⟩ := h
    rfl
  · obtain ⟨v, p, rfl, hc, hs, hC, k⟩ := h
    refine ⟨_, pss_one (ps_if (pt_not (pt_val (pe_call (ok_isCircle T) hr (by rfl) T.g_isCircle T.F_isCircle.kp T.y_isCircle .nil pass0 (pa_cons (pv 0) pa_nil)))) pss_never pss_nil), ?_⟩
    refine ⟨_, rfl, v, p, rfl, hc, hs, _, rfl, ?_⟩
    rw [hC]
    exact iteF k
/-! ### double -/
def sp_double : Sp := fun vs H Q _ => ∃ v u p q, vs = [v, u] ∧ CiAt H v p ∧ CiAt H u q ∧ sm p = true ∧ sm q = true ∧ isC p = true ∧ isC q = true ∧ Q (.int (dbl p q)) H
theorem sc_double : FnScope ["one", "other", "b", "c", "x", "y", "far_b", "far_c", "far_x", "far_y"] ["one", "other"] (defScope s_double) := ⟨rfl, rfl, rfl, by decide +kernel, rfl, by decide +kernel, by decide +kernel⟩
theorem ok_double (T : Txt K mg) : FnOk P w K mg base CX0 3 T.f_double T.d_double ["one", "other"] sp_double := by
  refine T.F_double.ok sc_double (fun vs H Q E h => ?_) (fun cdv A outer s H vs Q E hr h => ?_)
  · obtain ⟨v, u, p, q, rfl, _⟩ := h
    rfl
  · obtain ⟨v, u, p, q, rfl, hp, hq, sp', sq', cp, cq, k⟩ := h
    refine ⟨_, pss_cons (ps_expr (pe_call (ok_checkCircle T) hr (by rfl) T.g_checkCircle T.F_checkCircle.kp T.y_checkCircle .nil pass0 (pa_cons (pv 0) pa_nil)))
      (pss_cons (ps_expr (pe_call (ok_checkCircle T) hr (by rfl) T.g_checkCircle T.F_checkCircle.kp T.y_checkCircle .nil pass0 (pa_cons (pv 1) pa_nil)))
      (pss_cons (ps_asg (pv 0) (pg_tup rfl (pgs_cons (pg_name (i := 2) sc_double.nd rfl (.inl rfl)) (pgs_cons (pg_name (i := 3) sc_double.nd rfl (.inl rfl)) (pgs_cons (pg_name (i := 4) sc_double.nd rfl (.inl rfl)) (pgs_cons (pg_name (i := 5) sc_double.nd rfl (.inl rfl)) pgs_nil))))))
      (pss_cons (ps_asg (pv 1) (pg_tup rfl (pgs_cons (pg_name (i := 6) sc_double.nd rfl (.inl rfl)) (pgs_cons (pg_name (i := 7) sc_double.nd rfl (.inl rfl)) (pgs_cons (pg_name (i := 8) sc_double.nd rfl (.inl rfl)) (pgs_cons (pg_name (i := 9) sc_double.nd rfl (.inl rfl)) pgs_nil))))))
      (pss_one (ps_ret (pe_op op_sub (pe_op op_mul pe_int (pe_op op_add (pe_op op_mul (pv 4) (pv 8)) (pe_op op_mul (pv 5) (pv 9)))) (pe_op op_add (pe_op op_mul (pv 2) (pv 7)) (pe_op op_mul (pv 6) (pv 3))))))))), ?_⟩
    refine ⟨_, rfl, v, p, rfl, hp, sp', cp, ?_⟩
    refine ⟨_, rfl, u, q, rfl, hq, sq', cq, ?_⟩
    obtain ⟨a, rfl, ha⟩ := hp
    obtain ⟨b, rfl, hb⟩ := hq
    refine ⟨_, rfl, a, _, rfl, SqT.of ha, rfl, _, _, rfl, _, _, rfl, _, _, rfl, _, _, rfl, rfl, ?_⟩
    refine ⟨_, rfl, b, _, rfl, SqT.of hb, rfl, _, _, rfl, _, _, rfl, _, _, rfl, _, _, rfl, rfl, ?_⟩
    refine ⟨_, rfl, _, rfl, _, _, rfl, rfl, mulx sp' _, _, rfl, _, rfl, _, _, rfl, rfl, muly sp' _, _, _, rfl, rfl, _, _, rfl, rfl, mul2 _, _, rfl, _, rfl, _, _, rfl, rfl, mulb sp' _, _, rfl, _, rfl, _, _, rfl, rfl, mulb sq' _, _, _, rfl, rfl, _, _, rfl, rfl, ?_⟩
    exact k
/-! ### are_outward -/
def sp_outward : Sp := fun vs H Q _ => ∃ v u p q, vs = [v, u] ∧ CiAt H v p ∧ CiAt H u q ∧ Q (.bl (outw p q)) H
theorem sc_outward : FnScope ["one", "other", "b"] ["one", "other"] (defScope s_outward) := ⟨rfl, rfl, rfl, by decide +kernel, rfl, by decide +kernel, by decide +kernel⟩
theorem ok_outward (T : Txt K mg) : FnOk P w K mg base CX0 1 T.f_outward T.d_outward ["one", "other"] sp_outward := by
  refine T.F_outward.ok sc_outward (fun vs H Q E h => ?_) (fun cdv A outer s H vs Q E hr h => ?_)
  · obtain ⟨v, u, p, q, rfl, _⟩ := h
    rfl
  · obtain ⟨v, u, p, q, rfl, ⟨a, rfl, ha⟩, ⟨b, rfl, hb⟩, k⟩ := h
    refine ⟨_, pss_cons (ps_set (i := 2) sc_outward.nd rfl (.inl rfl) (pe_op op_add (pe_ix ix_tup (pv 0) pe_int (fun _ _ => rfl)) (pe_ix ix_tup (pv 1) pe_int (fun _ _ => rfl))))
      (pss_one (ps_ret (pe_or (pe_cmpR op_gt (pv 2) pe_int (nomark _)) (pe_one (pe_and (pe_cmpR op_eq (pv 2) pe_int (nomark _))
        (pe_one (pe_cmpR op_gt (pe_op op_add (pe_ix ix_tup (pv 0) pe_int (fun _ _ => rfl)) (pe_ix ix_tup (pv 1) pe_int (fun _ _ => rfl))) pe_int (nomark _)))))))), ?_⟩
    refine ⟨_, rfl, a, _, _, _, rfl, rfl, SqT.of ha, atI_nat (j := 0) rfl, _, rfl, b, _, _, _, rfl, rfl, SqT.of hb, atI_nat (j := 0) rfl, _, _, rfl, rfl, ?_⟩
    refine ⟨_, rfl, _, _, rfl, rfl, _, rfl, ?_⟩
    refine ite2 (fun h1 => ?_) (fun h1 => ?_)
    · have e : outw p q = true := by
        unfold outw
        rw [h1]
        rfl
      rw [e] at k
      exact k
    · have h1' : decide (0 < p.b + q.b) = false := by simpa using h1
      refine ⟨_, rfl, rfl, _, rfl, ?_⟩
      have e2 : decide (V.int (p.b + q.b) = V.int 0) = decide (p.b + q.b = 0) := by
        exact dec_int'
      refine ite2 (fun h2 => ?_) (fun h2 => ?_)
      · rw [e2] at h2
        refine ⟨_, rfl, a, _, _, _, rfl, rfl, SqT.of ha, atI_nat (j := 1) rfl, _, rfl, b, _, _, _, rfl, rfl, SqT.of hb, atI_nat (j := 1) rfl, _, _, rfl, rfl, _, _, rfl, rfl, ?_⟩
        have e : outw p q = decide (0 < p.c + q.c) := by
          unfold outw
          rw [h1', h2]
          rfl
        rw [e] at k
        exact k
      · rw [e2] at h2
        have h2' : decide (p.b + q.b = 0) = false := by simpa using h2
        have e : outw p q = false := by
          unfold outw
          rw [h1', h2']
          rfl
        rw [e] at k
        exact k
/-! ### touch -/
def sp_touch : Sp := fun vs H Q _ => ∃ v u p q, vs = [v, u] ∧ CiAt H v p ∧ CiAt H u q ∧ sm p = true ∧ sm q = true ∧ isC p = true ∧ isC q = true ∧ Q (.bl (tch p q)) H
theorem sc_touch : FnScope ["one", "other"] ["one", "other"] (defScope s_touch) := ⟨rfl, rfl, rfl, by decide +kernel, rfl, by decide +kernel, by decide +kernel⟩
theorem ok_touch (T : Txt K mg) : FnOk P w K mg base CX0 4 T.f_touch T.d_touch ["one", "other"] sp_touch := by
  refine T.F_touch.ok sc_touch (fun vs H Q E h => ?_) (fun cdv A outer s H vs Q E hr h => ?_)
  · obtain ⟨v, u, p, q, rfl, _⟩ := h
    rfl
  · obtain ⟨v, u, p, q, rfl, hp, hq, sp', sq', cp, cq, k⟩ := h
    refine ⟨_, pss_one (ps_ret (pe_and (pe_cmpR op_eq (pe_call (ok_double T) hr (by rfl) T.g_double T.F_double.kp T.y_double .nil pass0 (pa_cons (pv 0) (pa_cons (pv 1) pa_nil))) (pe_un un_neg pe_int) (nomark _))
      (pe_one (pe_call (ok_outward T) (hr.mono (by decide)) (by rfl) T.g_outward T.F_outward.kp T.y_outward .nil pass0 (pa_cons (pv 0) (pa_cons (pv 1) pa_nil)))))), ?_⟩
    refine ⟨_, rfl, _, rfl, v, u, p, q, rfl, hp, hq, sp', sq', cp, cq, _, rfl, rfl, _, rfl, ?_⟩
    have e2 : decide (V.int (dbl p q) = V.int (-2)) = decide (dbl p q = -2) := by
      exact dec_int'
    refine ite2 (fun h1 => ?_) (fun h1 => ?_)
    · rw [e2] at h1
      refine ⟨_, rfl, _, rfl, v, u, p, q, rfl, hp, hq, ?_⟩
      have e : tch p q = outw p q := by
        unfold tch
        rw [h1]
        rfl
      rw [e] at k
      exact k
    · rw [e2] at h1
      have h1' : decide (dbl p q = -2) = false := by simpa using h1
      have e : tch p q = false := by
        unfold tch
        rw [h1']
        rfl
      rw [e] at k
      exact k
end
end K51
/-! K51W2: fours. -/
namespace K51
open PySem L2
/-! ### a comprehension whose list at D grows; all that stood stands -/
def Gr (H1 : Hp) (D : Addr) (Acc : Nat → List V → Hp → Prop) (i : Nat) (H : Hp) : Prop := Same H1 H ∧ ∃ acc, H D = some (.lst acc) ∧ acc.length ≤ i ∧ Acc i acc H
theorem Same.mut {H H' : Hp} {p : Addr} {o : HO} (e : Same H H') (h : H p = none) : Same H (upd H' p o) := fun a u ha => by
  rw [upd_ne (ne_of_none ha h)]
  exact e a u ha
theorem Gr.start {H1 : Hp} {D : Addr} {Acc : Nat → List V → Hp → Prop} (hD : H1 D = none) (h0 : Acc 0 [] (upd H1 D (.lst []))) : Gr H1 D Acc 0 (upd H1 D (.lst [])) :=
  ⟨same_upd hD, [], upd_same, Nat.le_refl _, h0⟩
theorem Gr.push {H1 H H4 : Hp} {D : Addr} {Acc : Nat → List V → Hp → Prop} {i : Nat} {acc : List V} {y : V} (hD : H1 D = none) (hi : i ≤ 10000) (s : Same H1 H) (e : H D = some (.lst acc)) (hl : acc.length ≤ i) (s4 : Same H H4)
    (a : Acc (i + 1) (acc ++ [y]) (upd H4 D (.lst (acc ++ [y])))) : ∃ acc, H4 D = some (.lst acc) ∧ acc.length < sizeLine ∧ Gr H1 D Acc (i + 1) (upd H4 D (.lst (acc ++ [y]))) :=
  ⟨acc, s4 _ _ e, Nat.lt_of_le_of_lt (Nat.le_trans hl hi) (by decide), Same.mut (s.trans s4) hD, _, upd_same, by rw [List.length_append]; exact Nat.succ_le_succ hl, a⟩
theorem Gr.keep {H1 H H4 : Hp} {D : Addr} {Acc : Nat → List V → Hp → Prop} {i : Nat} {acc : List V} (s : Same H1 H) (e : H D = some (.lst acc)) (hl : acc.length ≤ i) (s4 : Same H H4)
    (a : Acc (i + 1) acc H4) : Gr H1 D Acc (i + 1) H4 := ⟨s.trans s4, acc, s4 _ _ e, Nat.le_succ_of_le hl, a⟩
theorem CiAt.mut {H : Hp} {v : V} {p : Ci} {D : Addr} {o : HO} {xs : List V} (h : CiAt H v p) (e : H D = some (.lst xs)) : CiAt (upd H D o) v p := by
  obtain ⟨a, ev, q⟩ := h
  exact ⟨a, ev, by rw [upd_ne (ne_of q e (by intro z; cases z))]; exact q⟩
theorem CisAt.mut {H : Hp} {vs : List V} {F : List Ci} {D : Addr} {o : HO} {xs : List V} (h : CisAt H vs F) (e : H D = some (.lst xs)) : CisAt (upd H D o) vs F := Paired.mapP h fun _ _ q => q.mut e
theorem paired_at {α β : Type} {R : α → β → Prop} : ∀ {xs : List α} {ys : List β} {i : Nat} {p : β}, Paired R xs ys → ys[i]? = some p → ∃ v, xs[i]? = some v ∧ R v p
  | _, _, _, _, .nil, h => by simp at h
  | _, _, 0, _, .cons r _, h => by
    cases h
    exact ⟨_, rfl, r⟩
  | _, _, i + 1, _, .cons _ t, h => paired_at (i := i) t (by simpa using h)
theorem paired_at' {α β : Type} {R : α → β → Prop} : ∀ {xs : List α} {ys : List β} {i : Nat} {v : α}, Paired R xs ys → xs[i]? = some v → ∃ p, ys[i]? = some p ∧ R v p
  | _, _, _, _, .nil, h => by simp at h
  | _, _, 0, _, .cons r _, h => by
    cases h
    exact ⟨_, rfl, r⟩
  | _, _, i + 1, _, .cons _ t, h => paired_at' (i := i) t (by simpa using h)
theorem paired_snoc {α β : Type} {R : α → β → Prop} {v : α} {p : β} (r : R v p) : ∀ {xs : List α} {ys : List β}, Paired R xs ys → Paired R (xs ++ [v]) (ys ++ [p])
  | _, _, .nil => .cons r .nil
  | _, _, .cons q t => .cons q (paired_snoc r t)
theorem take_succ_at {α : Type} {l : List α} {i : Nat} {x : α} (h : l[i]? = some x) : l.take (i + 1) = l.take i ++ [x] := by
  rw [List.take_add_one, h]
  rfl
theorem tYes_if {σ : L2.St} {H : Hp} {A B : Hp → Prop} (h : A H) : tYes σ H (fun b H3 => if b = true then A H3 else B H3) := by
  show if true = true then A H else B H
  rw [if_pos rfl]
  exact h
def Num (k : Nat) : Prop := k = 1 ∨ k = 2 ∨ k = 3 ∨ k = 4
section
variable {P : Program} {w : World} {K : PySem.W.Frag} {mg : Str → Option Value} {base : Heap}
/-! ### check_number -/
def sp_checkNumber : Sp := fun vs H Q _ => ∃ k : Nat, vs = [.int (k : Nat)] ∧ Num k ∧ Q .non H
theorem sc_checkNumber : FnScope ["number"] ["number"] (defScope s_checkNumber) := ⟨rfl, rfl, rfl, by decide +kernel, rfl, by decide +kernel, by decide +kernel⟩
theorem ok_checkNumber (T : Txt K mg) : FnOk P w K mg base CX0 1 T.f_checkNumber T.d_checkNumber ["number"] sp_checkNumber := by
  refine T.F_checkNumber.ok sc_checkNumber (fun vs H Q E h => ?_) (fun cdv A outer s H vs Q E hr h => ?_)
  · obtain ⟨k, rfl, _⟩ := h
    rfl
  · obtain ⟨n, rfl, hn, k⟩ := h
    refine ⟨_, pss_one (ps_if (pt_cmpR op_notIn_seq (pv 0) (pe_glob (v := .ref T.nF) (by rfl) T.g_nF rfl) (by rfl)) pss_never pss_nil), ?_⟩
    refine ⟨_, rfl, T.nF, _, rfl, .inr (T.sq_nF H), rfl, rfl, _, rfl, ?_⟩
    have e : inV (.int (n : Nat)) [.int 1, .int 2, .int 3, .int 4] = true := by
      rcases hn with rfl | rfl | rfl | rfl <;> decide
    rw [e]
    exact k
/-! ### Four.circle -/
def sp_fCircle (C : Addr) : Sp := fun vs H Q _ => ∃ v F k p, vs = [v, .int (k : Nat)] ∧ FourAt C H v F ∧ Num k ∧ F[k - 1]? = some p ∧ ∀ u, CiAt H u p → Q u H
theorem sc_fCircle : FnScope ["self", "number"] ["self", "number"] (defScope s_fCircle) := ⟨rfl, rfl, rfl, by decide +kernel, rfl, by decide +kernel, by decide +kernel⟩
theorem ok_fCircle (T : Txt K mg) : FnOk P w K mg base CX0 2 T.f_fCircle T.d_fCircle ["self", "number"] (sp_fCircle T.cF) := by
  refine T.F_fCircle.ok sc_fCircle (fun vs H Q E h => ?_) (fun cdv A outer s H vs Q E hr h => ?_)
  · obtain ⟨v, F, k, p, rfl, _⟩ := h
    rfl
  · obtain ⟨v, F, n, p, rfl, ⟨a, dx, t, us, rfl, h1, h2, h3⟩, hn, hp, k⟩ := h
    refine ⟨_, pss_cons (ps_expr (pe_call (ok_checkNumber T) hr (by rfl) T.g_checkNumber T.F_checkNumber.kp T.y_checkNumber .nil pass0 (pa_cons (pv 1) pa_nil)))
      (pss_one (ps_ret (pe_ix ix_tup (pe_fld (pv 0) rfl) (pe_op op_sub (pv 1) pe_int) (fun _ _ => rfl)))), ?_⟩
    obtain ⟨u, hu, ru⟩ := paired_at h3 hp
    refine ⟨_, rfl, n, rfl, hn, ?_⟩
    refine ⟨_, rfl, a, _, dx, _, _, rfl, h1, T.clF, T.naC, rfl, _, rfl, _, _, rfl, rfl, t, us, _, u, rfl, rfl, SqT.of h2, ?_, k u ru⟩
    have e : (n : Int) - 1 = ((n - 1 : Nat) : Int) := by
      rcases hn with rfl | rfl | rfl | rfl <;> rfl
    rw [e]
    exact atI_nat hu
/-! ### Four.curvatures -/
def sp_fCurv (C : Addr) : Sp := fun vs H Q _ => ∃ v F, vs = [v] ∧ FourAt C H v F ∧ F.length ≤ 4 ∧ ∀ t H', Same H H' → H t = none → TupFrz H' t (F.map fun p => .int p.b) → Q (.ref t) H'
theorem sc_fCurv : FnScope ["self", "circle"] ["self"] (defScope s_fCurv) := ⟨rfl, rfl, rfl, by decide +kernel, rfl, by decide +kernel, by decide +kernel⟩
theorem ok_fCurv (T : Txt K mg) : FnOk P w K mg base CX0 1 T.f_fCurv T.d_fCurv ["self"] (sp_fCurv T.cF) := by
  refine T.F_fCurv.ok sc_fCurv (fun vs H Q E h => ?_) (fun cdv A outer s H vs Q E hr h => ?_)
  · obtain ⟨v, F, rfl, _⟩ := h
    rfl
  · obtain ⟨v, F, rfl, ⟨a, dx, t, us, rfl, h1, h2, h3⟩, h4, k⟩ := h
    refine ⟨_, pss_one (ps_ret (pe_callTy call_tupleF (by rfl) T.b_tuple (by decide +kernel) (pa_cons
      (pe_lc (own := [("circle", 1)]) (g := gName 1) (tt := tYes) rfl sc_fCurv.nd (pi_tup (pe_fld (pv 0) rfl)) (blkOk_by (N := ["self", "circle"]) (sc := defScope s_fCurv) (by decide +kernel)) (fun _ _ _ _ _ => pg_name (i := 1) sc_fCurv.nd rfl (Or.inl rfl)) (fun _ _ _ _ _ => pts_nil)
        (fun _ _ _ _ _ => pe_ix (r := rIxT K) ix_tup (pv 1) pe_int (fun _ _ => rfl))) pa_nil))), ?_⟩
    have hlen : us.length = F.length := Paired.length h3
    refine ⟨_, rfl, a, _, dx, _, _, rfl, h1, T.clF, T.naC, rfl, t, rfl, ⟨us, SqT.of h2⟩, fun D hD => lc_it (walk_tup (K := K) (a := t) (xs := us)) (Gr H D fun i acc _ => acc = (F.take i).map fun p => V.int p.b) (Gr.start hD rfl) (fun i H' _ g => SqT.of (g.1 _ _ h2)) ?_ ?_⟩
    · rintro i x H2 H3 hi ⟨s2, acc, e2, l2, rfl⟩ ⟨rfl, hx⟩
      obtain ⟨p, hp, c, rfl, hc⟩ := paired_at' h3 hx
      refine ⟨rfl, tYes_if ?_⟩
      refine ⟨_, rfl, c, _, _, _, rfl, rfl, SqT.of (s2 _ _ hc), atI_nat (j := 0) rfl, ?_⟩
      refine Gr.push hD (by omega) s2 e2 l2 (Same.refl _) ?_
      rw [take_succ_at hp, List.map_append]
      rfl
    · rintro H2 ⟨s2, acc, e2, l2, rfl⟩
      refine ⟨D, _, rfl, SqL.of e2, fun l o c1 c2 hl => ?_⟩
      refine k l _ (Same.new s2 hl) (s2.free hl) ⟨o, c1, c2, ?_⟩
      rw [hlen, List.take_length]
      exact upd_same
end
end K51
/-! K51W3: fours, on. -/
namespace K51
open PySem L2
def prt : Nat → Ci → Int
  | 0, p => p.b
  | 1, p => p.c
  | 2, p => p.x
  | _, p => p.y
theorem cv_at (p : Ci) {i : Nat} (h : i < 4) : (cv p)[i]? = some (V.int (prt i p)) := by
  match i, h with
  | 0, _ => rfl
  | 1, _ => rfl
  | 2, _ => rfl
  | 3, _ => rfl
theorem four_list {F : Fo} (h : F.length = 4) : ∃ p q r s, F = [p, q, r, s] := by
  match F, h with
  | [p, q, r, s], _ => exact ⟨p, q, r, s, rfl⟩
theorem oth_cv {F : Fo} {k : Nat} {p : Ci} (hF : F.length = 4) (hk : Num k) (hp : F[k - 1]? = some p) : (List.range 4).map (fun j => V.int (2 * ((F.map (prt j)).sum - prt j p) - prt j p)) = cv (oth F k) := by
  obtain ⟨a, b, c, d, rfl⟩ := four_list hF
  rcases hk with rfl | rfl | rfl | rfl <;>
  · simp at hp
    subst hp
    simp [cv, oth, prt, List.range, List.range.loop]
    refine ⟨?_, ?_, ?_, ?_⟩ <;> omega
theorem range_snoc {f : Nat → V} (i : Nat) : (List.range (i + 1)).map f = (List.range i).map f ++ [f i] := by
  rw [List.range_succ, List.map_append]
  rfl
section
variable {P : Program} {w : World} {K : PySem.W.Frag} {mg : Str → Option Value} {base : Heap}
/-! ### Four.other -/
def sp_fOther (C : Addr) : Sp := fun vs H Q _ => ∃ v F k, vs = [v, .int (k : Nat)] ∧ FourAt C H v F ∧ F.length = 4 ∧ Num k ∧ ∀ u H', Same H H' → CiAt H' u (oth F k) → Q u H'
abbrev N_fOther : List Str := ["self", "number", "own", "sums", "part", "circle", "whole", "one"]
theorem sc_fOther : FnScope N_fOther ["self", "number"] (defScope s_fOther) := ⟨rfl, rfl, rfl, by decide +kernel, rfl, by decide +kernel, by decide +kernel⟩
theorem ok_fOther (T : Txt K mg) : FnOk P w K mg base CX0 3 T.f_fOther T.d_fOther ["self", "number"] (sp_fOther T.cF) := by
  refine T.F_fOther.ok sc_fOther (fun vs H Q E h => ?_) (fun cdv A outer s H vs Q E hr h => ?_)
  · obtain ⟨v, F, k, rfl, _⟩ := h
    rfl
  · obtain ⟨v, F, n, rfl, hv, hF, hn, k⟩ := h
    obtain ⟨p, hp⟩ : ∃ p, F[n - 1]? = some p := ⟨F[n - 1]'(by rcases hn with rfl | rfl | rfl | rfl <;> omega), by simp⟩
    refine ⟨_, pss_cons (ps_set (i := 2) sc_fOther.nd rfl (.inl rfl) (pe_meth (pv 0) T.clF T.m_fCircle (ok_fCircle T) hr T.y_fCircle .nil pass0 (pa_cons (pv 1) pa_nil)))
      (pss_cons (ps_setLc (i := 3) (own := [("part", 4)]) (g := gName 4) (tt := tYes) rfl sc_fOther.nd rfl rfl (sw_true rfl rfl rfl (by decide +kernel)) (pi_range1 (by rfl) T.b_range (pa_cons pe_int pa_nil)) (blkOk_by (N := N_fOther) (sc := defScope s_fOther) (by decide +kernel))
          (fun _ _ _ _ _ => pg_name (i := 4) sc_fOther.nd rfl (Or.inr rfl)) (fun _ _ _ _ _ => pts_nil)
          (fun _ _ _ _ _ => pe_callB (r := rSum K) (cr_sum rfl) (by rfl) T.b_sum (by decide +kernel) (pa_cons (pe_lc (own := [("circle", 5)]) (wi := iTup K (tFld K (tVar 0) "circles")) (g := gName 5) (tt := tYes) rfl sc_fOther.nd (pi_tup (pe_fld (pv 0) rfl)) (blkOk_by (by kernel_rfl))
            (fun _ _ _ _ _ => pg_name (i := 5) sc_fOther.nd rfl (Or.inl rfl)) (fun _ _ _ _ _ => pts_nil) (fun _ _ _ _ _ => pe_ix (r := rIxT K) ix_tup (pv 5) (pv 4) (fun _ _ => rfl))) pa_nil)))
      (pss_one (ps_ret (pe_callTy call_tuple_of (by rfl) T.b_tuple (by decide +kernel) (pa_cons
        (pe_lc (own := [("whole", 6), ("one", 7)]) (g := gTup K 2 (gCons (gName 6) (gCons (gName 7) gNil))) (tt := tYes) rfl sc_fOther.nd (pi_zipLT (by rfl) T.b_zip (pa_cons (pv 3) (pa_cons (pv 2) pa_nil))) (blkOk_by (N := N_fOther) (sc := defScope s_fOther) (by decide +kernel))
          (fun _ _ _ _ _ => pg_tup rfl (pgs_cons (pg_name (i := 6) sc_fOther.nd rfl (Or.inl rfl)) (pgs_cons (pg_name (i := 7) sc_fOther.nd rfl (Or.inl rfl)) pgs_nil))) (fun _ _ _ _ _ => pts_nil)
          (fun _ _ _ _ _ => pe_op op_sub (pe_op op_mul pe_int (pe_op op_sub (pv 6) (pv 7))) (pv 7))) pa_nil))))), ?_⟩
    obtain ⟨a, dx, t, us, rfl, h1, h2, h3⟩ := id hv
    have hlen : us.length = F.length := Paired.length h3
    refine ⟨_, rfl, a, dx, _, rfl, h1, rfl, _, rfl, _, F, n, p, rfl, hv, hn, hp, fun u hu => ?_⟩
    obtain ⟨c, rfl, hc⟩ := hu
    -- sums
    refine ⟨4, rfl, by decide, by decide, fun D hD => lc_it (walk_range (lo := 0) (n := 4)) (Gr H D fun i acc _ => acc = (List.range i).map fun j => V.int (F.map (prt j)).sum) (Gr.start hD rfl) (fun _ _ _ _ => trivial) ?_ ?_⟩
    · rintro i x H2 H3 hi ⟨s2, acc, e2, l2, rfl⟩ ⟨rfl, rfl⟩
      refine ⟨rfl, tYes_if ?_⟩
      refine ⟨_, rfl, a, _, dx, _, _, rfl, s2 _ _ h1, T.clF, T.naC, rfl, t, rfl, ⟨us, SqT.of (s2 _ _ h2)⟩, fun D2 hD2 => lc_it (walk_tup (K := K) (a := t) (xs := us)) (Gr H3 D2 fun j acc _ => acc = (F.take j).map fun p => V.int (prt i p)) (Gr.start hD2 rfl) (fun j H' _ g => SqT.of (g.1 _ _ (s2 _ _ h2))) ?_ ?_⟩
      · rintro j x H4 H5 hj ⟨s4, acc4, e4, l4, rfl⟩ ⟨rfl, hx⟩
        obtain ⟨q, hq, c2, rfl, hc2⟩ := paired_at' h3 hx
        refine ⟨rfl, tYes_if ?_⟩
        refine ⟨_, rfl, _, rfl, c2, _, _, _, rfl, rfl, SqT.of (s4 _ _ (s2 _ _ hc2)), by rw [Int.zero_add]; exact atI_nat (cv_at q hi), ?_⟩
        refine Gr.push hD2 (by omega) s4 e4 l4 (Same.refl _) ?_
        rw [take_succ_at hq, List.map_append]
        rfl
      · rintro H4 ⟨s4, acc4, e4, l4, rfl⟩
        rw [hlen, List.take_length] at e4
        refine ⟨D2, F.map (prt i), rfl, SqL.of (by rw [List.map_map]; exact e4), ?_⟩
        refine Gr.push hD (by omega) s2 e2 l2 s4 ?_
        rw [range_snoc]
    · rintro H2 ⟨s2, acc, e2, l2, rfl⟩
      -- the tuple
      refine ⟨_, rfl, _, rfl, D, c, _, _, rfl, SqL.of e2, SqT.of (s2 _ _ hc), fun D3 hD3 => lc_it (walk_zipLT (by simp [cv])) (Gr H2 D3 fun i acc _ => acc = (List.range i).map fun j => V.int (2 * ((F.map (prt j)).sum - prt j p) - prt j p)) (Gr.start hD3 rfl) (fun i H' _ g => ⟨SqL.of (g.1 _ _ e2), SqT.of (g.1 _ _ (s2 _ _ hc))⟩) ?_ ?_⟩
      · rintro i x H4 H5 hi ⟨s4, acc4, e4, l4, rfl⟩ ⟨Tp, x1, x2, rfl, nT, rfl, f1, f2⟩
        have hi4 : i < 4 := by simpa using hi
        dsimp only at f1 f2
        have ex1 : x1 = V.int (F.map (prt i)).sum := by
          rw [List.getElem?_map, List.getElem?_range hi4] at f1
          exact (Option.some.inj f1).symm
        have ex2 : x2 = V.int (prt i p) := by
          rw [cv_at p hi4] at f2
          exact (Option.some.inj f2).symm
        subst ex1 ex2
        refine ⟨Tp, _, rfl, SqT.of upd_same, rfl, _, _, rfl, _, _, rfl, rfl, rfl, tYes_if ?_⟩
        refine ⟨_, rfl, _, rfl, _, _, rfl, rfl, _, _, rfl, rfl, mul2 _, _, rfl, _, _, rfl, rfl, ?_⟩
        refine Gr.push hD3 (by omega) s4 e4 l4 (same_upd nT) ?_
        rw [range_snoc]
      · rintro H4 ⟨s4, acc4, e4, l4, rfl⟩
        refine ⟨D3, _, rfl, .inl ⟨SqL.of e4, fun l hl => ?_⟩⟩
        refine k _ _ (Same.new (s2.trans s4) hl) ⟨l, rfl, ?_⟩
        rw [upd_same, ← oth_cv hF hn hp]
        simp
end
end K51
/-! K51W4: a four is made, exchanged. -/
namespace K51
open PySem L2
theorem okF_len {F : Fo} (h : okF F = true) : F.length = 4 := by
  match F, h with
  | [_, _, _, _], _ => rfl
theorem okF_C {F : Fo} (h : okF F = true) {p : Ci} (hp : p ∈ F) : isC p = true ∧ sm p = true := by
  obtain ⟨a, b, c, d, rfl⟩ := four_list (okF_len h)
  simp only [okF, Bool.and_eq_true] at h
  simp only [List.mem_cons, List.not_mem_nil, or_false] at hp
  obtain ⟨⟨⟨⟨⟨⟨⟨⟨⟨⟨⟨⟨⟨h1, h2⟩, h3⟩, h4⟩, _⟩, _⟩, _⟩, _⟩, _⟩, _⟩, s1⟩, s2⟩, s3⟩, s4⟩ := h
  rcases hp with rfl | rfl | rfl | rfl
  · exact ⟨h1, s1⟩
  · exact ⟨h2, s2⟩
  · exact ⟨h3, s3⟩
  · exact ⟨h4, s4⟩
theorem okF_tch {F : Fo} (h : okF F = true) {i j : Nat} {p q : Ci} (hp : F[i]? = some p) (hq : F[j]? = some q) (hji : j < i) : tch p q = true := by
  obtain ⟨a, b, c, d, rfl⟩ := four_list (okF_len h)
  simp only [okF, Bool.and_eq_true] at h
  obtain ⟨⟨⟨⟨⟨⟨⟨⟨⟨⟨⟨⟨⟨_, _⟩, _⟩, _⟩, t1⟩, t2⟩, t3⟩, t4⟩, t5⟩, t6⟩, _⟩, _⟩, _⟩, _⟩ := h
  match i, j, hji with
  | 1, 0, _ => cases hp; cases hq; exact t1
  | 2, 0, _ => cases hp; cases hq; exact t2
  | 2, 1, _ => cases hp; cases hq; exact t3
  | 3, 0, _ => cases hp; cases hq; exact t4
  | 3, 1, _ => cases hp; cases hq; exact t5
  | 3, 2, _ => cases hp; cases hq; exact t6
  | i + 4, _, _ => simp at hp
theorem exch_at {F : Fo} {k i : Nat} (hF : F.length = 4) (hk : Num k) (hi : i < 4) : (exch F k)[i]? = if i + 1 = k then some (oth F k) else F[i]? := by
  obtain ⟨a, b, c, d, rfl⟩ := four_list hF
  match i, hi with
  | 0, _ => rcases hk with rfl | rfl | rfl | rfl <;> rfl
  | 1, _ => rcases hk with rfl | rfl | rfl | rfl <;> rfl
  | 2, _ => rcases hk with rfl | rfl | rfl | rfl <;> rfl
  | 3, _ => rcases hk with rfl | rfl | rfl | rfl <;> rfl
theorem exch_len {F : Fo} {k : Nat} (hF : F.length = 4) : (exch F k).length = 4 := by
  obtain ⟨a, b, c, d, rfl⟩ := four_list hF
  unfold exch
  split <;> (try rfl) <;> (split <;> rfl)
theorem CiAt.iff {H : Hp} {a : Addr} {p : Ci} (h : CiAt H (.ref a) p) : H a = some (.tup (cv p)) := by
  obtain ⟨b, e, q⟩ := h
  cases e
  exact q
abbrev rTupS (K : PySem.W.Frag) : List V → Hp → VK → Prop := fun xs H Q => ∃ a ys, xs = [.ref a] ∧ SqT K H a ys ∧ Q (.ref a) H
section
variable {P : Program} {w : World} {K : PySem.W.Frag} {mg : Str → Option Value} {base : Heap}
/-! ### Four.__init__ -/
def sp_fInit (C : Addr) : Sp := fun vs H Q _ => ∃ a dx l us F, vs = [.ref a, .ref l] ∧ H a = some (.ins C dx []) ∧ H l = some (.lst us) ∧ CisAt H us F ∧ okF F = true ∧
  ∀ H', (∀ b o, H b = some o → b ≠ a → H' b = some o) → FourAt C H' (.ref a) F → Q .non H'
abbrev N_fInit : List Str := ["self", "circles", "circle", "at", "other"]
theorem sc_fInit : FnScope N_fInit ["self", "circles"] (defScope s_fInit) := ⟨rfl, rfl, rfl, by decide +kernel, rfl, by decide +kernel, by decide +kernel⟩
theorem ok_fInit (T : Txt K mg) : FnOk P w K mg base CX0 5 T.f_fInit T.d_fInit ["self", "circles"] (sp_fInit T.cF) := by
  refine T.F_fInit.ok sc_fInit (fun vs H Q E h => ?_) (fun cdv A outer s H vs Q E hr h => ?_)
  · obtain ⟨a, dx, l, us, F, rfl, _⟩ := h
    rfl
  · obtain ⟨a, dx, l, us, F, rfl, h1, h2, h3, hF, k⟩ := h
    refine ⟨_, pss_cons (ps_if (pt_cmpR op_ne (pe_callB call_len_seq (by rfl) T.b_len PySem.boot_len (pa_cons (pv 1) pa_nil)) (pe_callB call_len_seq (by rfl) T.b_len PySem.boot_len (pa_cons (pe_glob (v := .ref T.nF) (by rfl) T.g_nF rfl) pa_nil)) (nomark _)) pss_never pss_nil) <|
      pss_cons (ps_for PassesOwn.never rfl (pi_list (pv 1)) (pg_name (i := 2) sc_fInit.nd rfl (.inr rfl)) (pss_one (ps_expr (pe_call (ok_checkCircle T) (hr.mono (by decide)) (by rfl) T.g_checkCircle T.F_checkCircle.kp T.y_checkCircle .nil pass0 (pa_cons (pv 2) pa_nil))))) <|
      pss_cons (ps_fld (pv 0) (pe_callTy call_tuple_of (by rfl) T.b_tuple (by decide +kernel) (pa_cons (pe_lc (own := [("circle", 2)]) (g := gName 2) (tt := tYes) rfl sc_fInit.nd (pi_list (pv 1)) (blkOk_by (N := N_fInit) (sc := defScope s_fInit) (by decide +kernel))
          (fun _ _ _ _ _ => pg_name (i := 2) sc_fInit.nd rfl (Or.inl rfl)) (fun _ _ _ _ _ => pts_nil) (fun _ _ _ _ _ => pe_callTy (r := rTupS K) call_tupleT (by rfl) T.b_tuple (by decide +kernel) (pa_cons (pv 2) pa_nil))) pa_nil)) rfl) <|
      pss_one (ps_for PassesOwn.never rfl (pi_enumT (by rfl) T.b_enumerate (pa_cons (pe_fld (pv 0) rfl) pa_nil)) (pg_tup rfl (pgs_cons (pg_name (i := 3) sc_fInit.nd rfl (.inl rfl)) (pgs_cons (pg_name (i := 2) sc_fInit.nd rfl (.inr rfl)) pgs_nil))) <|
        pss_one <| ps_if (pt_not (pt_val (pe_callB (cr_all rfl) (by rfl) T.b_all (by decide +kernel) (pa_cons (pe_lc (own := [("other", 4)]) (g := gName 4) (tt := tYes) rfl sc_fInit.nd (pi_tup (pe_slice sl_tup (pe_fld (pv 0) rfl) po_none (po_some (pv 3)))) (blkOk_by (N := N_fInit) (sc := defScope s_fInit) (by decide +kernel))
          (fun _ _ _ _ _ => pg_name (i := 4) sc_fInit.nd rfl (Or.inl rfl)) (fun _ _ _ _ _ => pts_nil) (fun _ _ _ _ _ => pe_call (ok_touch T) hr (by rfl) T.g_touch T.F_touch.kp T.y_touch .nil pass0 (pa_cons (pv 2) (pa_cons (pv 4) pa_nil)))) pa_nil)))) pss_never pss_nil), ?_⟩
    have hlen : us.length = F.length := Paired.length h3
    have hF4 := okF_len hF
    have hL : SqL K H l us := SqL.of h2
    -- len(circles)
    refine ⟨_, rfl, l, us, rfl, .inl hL, T.nF, _, rfl, .inr (T.sq_nF H), rfl, _, rfl, ?_⟩
    rw [hlen, hF4]
    refine iteF ?_
    -- each is a circle
    refine ⟨_, rfl, l, rfl, ⟨us, hL⟩, for_it (walk_list (K := K) (a := l) (xs := us)) (fun i σ H' => (∃ x, σ = [some (.ref a), some (.ref l), x, none, none]) ∧ H' = H) ⟨⟨_, rfl⟩, rfl⟩ (fun i σ H' _ g => by rw [g.2]; exact hL) ?_ ?_⟩
    · rintro i x σ H2 H3 hi ⟨⟨x0, rfl⟩, rfl⟩ ⟨rfl, hx⟩
      obtain ⟨p, hp, rp⟩ := paired_at' h3 hx
      obtain ⟨c1, c2⟩ := okF_C hF (List.mem_of_getElem? hp)
      exact ⟨_, rfl, x, p, rfl, rp, c2, c1, ⟨_, rfl⟩, rfl⟩
    · rintro σ H2 ⟨⟨x0, rfl⟩, rfl⟩
      -- self.circles = tuple(..)
      refine ⟨_, rfl, l, rfl, ⟨us, hL⟩, fun D hD => lc_it (walk_list (K := K) (a := l) (xs := us)) (Gr H2 D fun i acc _ => acc = us.take i) (Gr.start hD rfl) (fun i H' _ g => g.1.seq hL) ?_ ?_⟩
      · rintro i x H3 H4 hi ⟨s2, acc, e2, l2, rfl⟩ ⟨rfl, hx⟩
        obtain ⟨p, hp, c, rfl, hc⟩ := paired_at' h3 hx
        refine ⟨rfl, tYes_if ?_⟩
        refine ⟨_, rfl, c, _, rfl, SqT.of (s2 _ _ hc), ?_⟩
        refine Gr.push hD (by omega) s2 e2 l2 (Same.refl _) ?_
        rw [take_succ_at hx]
      · rintro H3 ⟨s3, acc, e3, l3, rfl⟩
        rw [List.take_length] at e3
        refine ⟨D, us, rfl, .inl ⟨SqL.of e3, fun t ht => ?_⟩⟩
        have s4 : Same H2 (upd H3 t (.tup us)) := Same.new s3 ht
        refine ⟨_, rfl, a, T.cF, dx, [], rfl, s4 _ _ h1, T.clF, T.naC, by decide, ?_⟩
        have nat : t ≠ a := fun e => by
          rw [e, s3 _ _ h1] at ht
          cases ht
        generalize hH5 : upd (upd H3 t (.tup us)) a (.ins T.cF dx (putF "circles" (.ref t) [])) = H5
        have g1 : H5 a = some (.ins T.cF dx [("circles", .ref t)]) := by
          rw [← hH5]
          exact upd_same
        have g2 : H5 t = some (.tup us) := by
          rw [← hH5, upd_ne nat, upd_same]
        have g3 : ∀ b o, H2 b = some o → b ≠ a → H5 b = some o := fun b o e n => by
          rw [← hH5, upd_ne n]
          exact s4 _ _ e
        have g4 : CisAt H5 us F := Paired.mapP h3 fun v p ⟨c, ec, hc⟩ => ⟨c, ec, g3 _ _ hc (ne_of hc h1 (by intro z; cases z))⟩
        -- for at, circle in enumerate(self.circles)
        refine ⟨_, rfl, a, _, dx, _, _, rfl, g1, T.clF, T.naC, rfl, t, us, rfl, SqT.of g2, for_it (walk_enumT (K := K) (a := t) (k := 0) (xs := us)) (fun i σ H' => (∃ x y, σ = [some (.ref a), some (.ref l), x, y, none]) ∧ Same H5 H') ⟨⟨_, _, rfl⟩, Same.refl _⟩ (fun i σ H' _ g => SqT.of (g.2 _ _ g2)) ?_ ?_⟩
        · rintro i x σ H6 H7 hi ⟨⟨x0, y0, rfl⟩, s6⟩ ⟨Tp, x1, x2, rfl, nT, rfl, f1, f2⟩
          dsimp only at f1 f2
          obtain rfl := Option.some.inj f1
          obtain ⟨p, hp, rp⟩ := paired_at' g4 f2
          have s7 : Same H5 (upd H6 Tp (.tup [.int (0 + (i : Nat)), x2])) := Same.new s6 nT
          refine ⟨Tp, _, rfl, SqT.of upd_same, rfl, _, _, rfl, _, _, rfl, rfl, ?_⟩
          refine ⟨_, rfl, a, _, dx, _, _, rfl, s7 _ _ g1, T.clF, T.naC, rfl, _, rfl, _, rfl, t, us, rfl, SqT.of (s7 _ _ g2), ?_, fun t2 ht2 => ?_⟩
          · rw [Int.zero_add, HT.sIx_nat]
            omega
          · have ecut : cutV us none (some (0 + (i : Nat))) = us.take i := by
              unfold cutV
              rw [Int.zero_add, HT.sIx_nat, HT.sIx_none, Nat.min_eq_left (Nat.le_of_lt hi)]
              simp
            rw [ecut]
            have s8 := Same.new (o := .tup (us.take i)) s7 ht2
            generalize hH8 : upd (upd H6 Tp (.tup [.int (0 + (i : Nat)), x2])) t2 (.tup (us.take i)) = H8
            rw [hH8] at s8
            have e8 : H8 t2 = some (.tup (us.take i)) := by
              rw [← hH8]
              exact upd_same
            refine ⟨t2, rfl, ⟨_, SqT.of e8⟩, fun D2 hD2 => lc_it (walk_tup (K := K) (a := t2) (xs := us.take i)) (Gr H8 D2 fun j acc _ => acc = (List.replicate j true).map V.bl) (Gr.start hD2 rfl) (fun i H' _ g => SqT.of (g.1 _ _ e8)) ?_ ?_⟩
            · rintro j x H9 H10 hj ⟨s9, acc9, e9, l9, rfl⟩ ⟨rfl, hx⟩
              rw [List.length_take] at hj
              have hji : j < i := by omega
              rw [List.getElem?_take_of_lt hji] at hx
              obtain ⟨q, hq, rq⟩ := paired_at' g4 hx
              obtain ⟨c1, c2⟩ := okF_C hF (List.mem_of_getElem? hp)
              obtain ⟨c3, c4⟩ := okF_C hF (List.mem_of_getElem? hq)
              refine ⟨rfl, tYes_if ?_⟩
              refine ⟨_, rfl, _, rfl, x2, x, p, q, rfl, rp.same (s8.trans s9), rq.same (s8.trans s9), c2, c4, c1, c3, ?_⟩
              rw [okF_tch hF hp hq hji]
              refine Gr.push hD2 (by omega) s9 e9 l9 (Same.refl _) ?_
              rw [List.replicate_succ', List.map_append]
              rfl
            · rintro H9 ⟨s9, acc9, e9, l9, rfl⟩
              refine ⟨D2, _, rfl, SqL.of e9, _, rfl, ?_⟩
              have eall : ((List.replicate (us.take i).length true).all id) = true := by simp
              rw [eall]
              refine iteF ?_
              exact ⟨⟨_, _, rfl⟩, s8.trans s9⟩
        · rintro σ H6 ⟨⟨x0, y0, rfl⟩, s6⟩
          exact k H6 (fun b o e n => s6 _ _ (g3 _ _ e n)) ⟨a, dx, t, us, rfl, s6 _ _ g1, s6 _ _ g2, CisAt.same g4 s6⟩
end
end K51
/-! K51W5: a four is exchanged; strips. -/
namespace K51
open PySem L2
section
variable {P : Program} {w : World} {K : PySem.W.Frag} {mg : Str → Option Value} {base : Heap}
/-! ### Four.exchanged -/
def sp_fExch (C : Addr) : Sp := fun vs H Q _ => ∃ v F k, vs = [v, .int (k : Nat)] ∧ FourAt C H v F ∧ F.length = 4 ∧ Num k ∧ okF (exch F k) = true ∧ ∀ u H', Same H H' → FourAt C H' u (exch F k) → Q u H'
abbrev N_fExch : List Str := ["self", "number", "circle", "at", "old"]
theorem sc_fExch : FnScope N_fExch ["self", "number"] (defScope s_fExch) := ⟨rfl, rfl, rfl, by decide +kernel, rfl, by decide +kernel, by decide +kernel⟩
theorem ok_fExch (T : Txt K mg) : FnOk P w K mg base CX0 7 T.f_fExch T.d_fExch ["self", "number"] (sp_fExch T.cF) := by
  refine T.F_fExch.ok sc_fExch (fun vs H Q E h => ?_) (fun cdv A outer s H vs Q E hr h => ?_)
  · obtain ⟨v, F, k, rfl, _⟩ := h
    rfl
  · obtain ⟨v, F, n, rfl, hv, hF, hn, hok, k⟩ := h
    refine ⟨_, pss_cons (ps_set (i := 2) sc_fExch.nd rfl (.inr rfl) (pe_meth (pv 0) T.clF T.m_fOther (ok_fOther T) (hr.mono (by decide)) T.y_fOther .nil pass0 (pa_cons (pv 1) pa_nil))) <|
      pss_one <| ps_ret <| pe_make T.m_fInit (ok_fInit T) hr (by rfl) T.gcF T.y_fInit .nil pass0 (pa_cons (pe_lc (own := [("at", 3), ("old", 4)]) (g := gTup K 2 (gCons (gName 3) (gCons (gName 4) gNil))) (tt := tYes) rfl sc_fExch.nd
          (pi_enumT1 (by rfl) T.b_enumerate (pa_cons (pe_fld (pv 0) rfl) (pa_cons pe_int pa_nil))) (blkOk_by (N := N_fExch) (sc := defScope s_fExch) (by decide +kernel))
          (fun _ _ _ _ _ => pg_tup rfl (pgs_cons (pg_name (i := 3) sc_fExch.nd rfl (Or.inl rfl)) (pgs_cons (pg_name (i := 4) sc_fExch.nd rfl (Or.inl rfl)) pgs_nil))) (fun _ _ _ _ _ => pts_nil)
          (fun _ _ _ _ _ => pe_ifExp (pt_cmpR op_eq (pv 3) (pv 1) (nomark _)) (pv 2) (pv 4))) pa_nil), ?_⟩
    obtain ⟨a, dx, t, us, rfl, h1, h2, h3⟩ := id hv
    have hlen : us.length = F.length := Paired.length h3
    refine ⟨_, rfl, a, dx, _, rfl, h1, rfl, _, rfl, _, F, n, rfl, hv, hF, hn, fun u H1 s1 hu => ?_⟩
    refine ⟨_, rfl, a, _, dx, _, _, rfl, s1 _ _ h1, T.clF, T.naC, rfl, t, us, rfl, SqT.of (s1 _ _ h2), fun D hD => lc_it (walk_enumT (K := K) (a := t) (k := 1) (xs := us)) (Gr H1 D fun i acc H' => CisAt H' acc ((exch F n).take i)) (Gr.start hD .nil) (fun i H' _ g => SqT.of (g.1 _ _ (s1 _ _ h2))) ?_ ?_⟩
    · rintro i x H6 H7 hi ⟨s6, acc, e6, l6, hacc⟩ ⟨Tp, x1, x2, rfl, nT, rfl, f1, f2⟩
      dsimp only at f1 f2
      obtain rfl := Option.some.inj f1
      obtain ⟨p, hp, rp⟩ := paired_at' h3 f2
      have hi4 : i < 4 := by omega
      have s7 : Same H6 (upd H6 Tp (.tup [.int (1 + (i : Nat)), x2])) := same_upd nT
      have e7 : (upd H6 Tp (.tup [.int (1 + (i : Nat)), x2])) D = some (.lst acc) := s7 _ _ e6
      refine ⟨Tp, _, rfl, SqT.of upd_same, rfl, _, _, rfl, _, _, rfl, rfl, rfl, tYes_if ?_⟩
      refine ⟨_, rfl, _, rfl, rfl, _, rfl, ?_⟩
      have ed : decide (V.int (1 + (i : Nat)) = V.int (n : Nat)) = decide (i + 1 = n) := by
        rw [dec_int']
        by_cases h : i + 1 = n
        · rw [decide_eq_true h, decide_eq_true (by omega)]
        · rw [decide_eq_false h, decide_eq_false (by omega)]
      rw [ed]
      have ex := exch_at hF hn hi4
      by_cases h : i + 1 = n
      · rw [decide_eq_true h]
        rw [if_pos h] at ex
        refine iteT ?_
        refine ⟨_, rfl, ?_⟩
        refine Gr.push hD (by omega) s6 e6 l6 s7 ?_
        rw [take_succ_at ex]
        exact CisAt.mut (paired_snoc ((hu.same s6).same s7) (CisAt.same hacc s7)) e7
      · rw [decide_eq_false h]
        rw [if_neg h, hp] at ex
        refine iteF ?_
        refine ⟨_, rfl, ?_⟩
        refine Gr.push hD (by omega) s6 e6 l6 s7 ?_
        rw [take_succ_at ex]
        exact CisAt.mut (paired_snoc (((rp.same s1).same s6).same s7) (CisAt.same hacc s7)) e7
    · rintro H2 ⟨s2, acc, e2, l2, hacc⟩
      have el : (exch F n).length = us.length := by rw [exch_len hF, hlen, hF]
      rw [← el, List.take_length] at hacc
      intro x dx2 hx hdx hne
      have s3 : Same H2 (upd (upd H2 dx2 (.own x)) x (.ins T.cF dx2 [])) := fun b o e => by
        rw [upd_ne (ne_of_none e hx), upd_ne (ne_of_none e hdx)]
        exact e
      refine ⟨x, dx2, D, acc, exch F n, rfl, upd_same, s3 _ _ e2, CisAt.same hacc s3, hok, fun H4 k4 f4 => ⟨rfl, ?_⟩⟩
      exact k _ H4 ((s1.trans s2).trans (Same.made hx hdx k4)) f4
/-! ### Four.is_strip -/
def sp_fStrip (C : Addr) : Sp := fun vs H Q _ => ∃ v F, vs = [v] ∧ FourAt C H v F ∧ F.length ≤ 4 ∧ ∀ H', Same H H' → Q (.bl (strip F)) H'
theorem sc_fStrip : FnScope ["self"] ["self"] (defScope s_fStrip) := ⟨rfl, rfl, rfl, by decide +kernel, rfl, by decide +kernel, by decide +kernel⟩
theorem ok_fStrip (T : Txt K mg) : FnOk P w K mg base CX0 2 T.f_fStrip T.d_fStrip ["self"] (sp_fStrip T.cF) := by
  refine T.F_fStrip.ok sc_fStrip (fun vs H Q E h => ?_) (fun cdv A outer s H vs Q E hr h => ?_)
  · obtain ⟨v, F, rfl, _⟩ := h
    rfl
  · obtain ⟨v, F, rfl, hv, h4, k⟩ := h
    refine ⟨_, pss_one <| ps_ret <| pe_cmpR op_eq (pe_bmT PySem.F.plainAttrs_tuple PySem.F.slot_tuple_count PySem.F.type_tuple_count mt_tcount (pe_meth0 (pv 0) T.clF T.m_fCurv (ok_fCurv T) hr T.y_fCurv .nil pass0) (pa_cons pe_int pa_nil)) pe_int (nomark _), ?_⟩
    obtain ⟨a, dx, t, us, rfl, h1, h2, h3⟩ := id hv
    refine ⟨_, rfl, a, dx, _, rfl, h1, rfl, _, F, rfl, hv, h4, fun t2 H2 s2 n2 ht => ?_⟩
    refine ⟨⟨t2, _, rfl, ht⟩, t2, F.map (·.b), _, rfl, rfl, by rw [List.map_map]; exact ht.sq, rfl, ?_⟩
    have e : decide (V.int ((F.map (·.b)).count 0 : Nat) = V.int 2) = strip F := by
      rw [dec_int']
      unfold strip
      by_cases h : (F.map (·.b)).count 0 = 2
      · rw [h]
        rfl
      · have hb : ((F.map (·.b)).count 0 == 2) = false := by simpa using h
        rw [hb]
        exact decide_eq_false (by omega)
    show Q (.bl (decide (V.int ((F.map (·.b)).count 0 : Nat) = V.int 2))) H2
    rw [e]
    exact k H2 s2
end
end K51
/-! K51W6: words, walks, roots. -/
namespace K51
open PySem L2
def okWalk : Fo → List Nat → Bool
  | _, [] => true
  | F, k :: ks => okF (exch F k) && okWalk (exch F k) ks
theorem at4_cons (F : Fo) (k : Nat) (ks : List Nat) : at4 F (k :: ks) = at4 (exch F k) ks := rfl
theorem at4_snoc (F : Fo) (ks : List Nat) (k : Nat) : at4 F (ks ++ [k]) = exch (at4 F ks) k := by
  unfold at4
  rw [List.foldl_append]
  rfl
theorem at4_append (F : Fo) (ks ls : List Nat) : at4 F (ks ++ ls) = at4 (at4 F ks) ls := by
  unfold at4
  rw [List.foldl_append]
theorem at4_len {F : Fo} (h : F.length = 4) : ∀ ks : List Nat, (at4 F ks).length = 4 := by
  intro ks
  induction ks generalizing F with
  | nil => exact h
  | cons k ks ih =>
    rw [at4_cons]
    exact ih (exch_len h)
theorem okWalk_at : ∀ {F : Fo} {ws : List Nat} {i k : Nat}, okWalk F ws = true → ws[i]? = some k → okF (exch (at4 F (ws.take i)) k) = true
  | _, [], _, _, _, h => by simp at h
  | F, a :: ws, 0, k, h, e => by
    cases e
    unfold okWalk at h
    rw [Bool.and_eq_true] at h
    exact h.1
  | F, a :: ws, i + 1, k, h, e => by
    unfold okWalk at h
    rw [Bool.and_eq_true] at h
    rw [List.take_succ_cons, at4_cons]
    exact okWalk_at h.2 (by simpa using e)
theorem gp_num {F : Fo} {k : Nat} (h : gp F = some k) : Num k := by
  unfold gp at h
  split at h
  · dsimp only at h
    split at h
    · cases h; exact .inl rfl
    · split at h
      · cases h; exact .inr (.inl rfl)
      · split at h
        · cases h; exact .inr (.inr (.inl rfl))
        · split at h
          · cases h; exact .inr (.inr (.inr rfl))
          · cases h
  · cases h
theorem wd_at : ∀ {n : Nat} {F R : Fo} {ws : List Nat}, wd n F = some (ws, R) → at4 F ws = R ∧ okWalk F ws = true ∧ (∀ k ∈ ws, Num k) ∧ ws.length < n
  | 0, _, _, _, h => by cases h
  | n + 1, F, R, ws, h => by
    unfold wd at h
    cases hg : gp F with
    | none =>
      rw [hg] at h
      cases h
      exact ⟨rfl, rfl, fun k hk => (List.not_mem_nil hk).elim, Nat.succ_pos _⟩
    | some k =>
      rw [hg] at h
      dsimp only at h
      by_cases ho : okF (exch F k) = true
      · rw [if_pos ho] at h
        obtain ⟨⟨w', R'⟩, h1, h2⟩ := Option.map_eq_some_iff.mp h
        cases h2
        obtain ⟨a1, a2, a3, a4⟩ := wd_at h1
        refine ⟨by rw [at4_cons]; exact a1, by unfold okWalk; rw [ho, a2]; rfl, fun j hj => ?_, Nat.succ_lt_succ a4⟩
        rcases List.mem_cons.mp hj with rfl | hj
        · exact gp_num hg
        · exact a3 j hj
      · rw [if_neg ho] at h
        cases h
def gpV (F : Fo) : V := match gp F with
  | none => .non
  | some k => .int (k : Nat)
def wv (ws : List Nat) : List V := ws.map fun (k : Nat) => V.int (k : Nat)
def bsum (F : Fo) : Int := (F.map fun p => p.b).sum
theorem gp_some {F : Fo} {i : Nat} {p : Ci} (hF : F.length = 4) (hp : F[i]? = some p) (h : bsum F < 2 * p.b) (hj : ∀ (j : Nat) (q : Ci), j < i → F[j]? = some q → ¬ bsum F < 2 * q.b) : gp F = some (i + 1) := by
  obtain ⟨a, b, c, d, rfl⟩ := four_list hF
  have e : bsum [a, b, c, d] = a.b + b.b + c.b + d.b := by simp [bsum]; omega
  rw [e] at h
  unfold gp
  dsimp only
  match i, hp with
  | 0, hp =>
    cases hp
    rw [if_pos h]
  | 1, hp =>
    cases hp
    have h0 := hj 0 a (by omega) rfl
    rw [e] at h0
    rw [if_neg h0, if_pos h]
  | 2, hp =>
    cases hp
    have h0 := hj 0 a (by omega) rfl
    have h1 := hj 1 b (by omega) rfl
    rw [e] at h0 h1
    rw [if_neg h0, if_neg h1, if_pos h]
  | 3, hp =>
    cases hp
    have h0 := hj 0 a (by omega) rfl
    have h1 := hj 1 b (by omega) rfl
    have h2 := hj 2 c (by omega) rfl
    rw [e] at h0 h1 h2
    rw [if_neg h0, if_neg h1, if_neg h2, if_pos h]
theorem gp_none {F : Fo} (hF : F.length = 4) (hj : ∀ (j : Nat) (q : Ci), F[j]? = some q → ¬ bsum F < 2 * q.b) : gp F = none := by
  obtain ⟨a, b, c, d, rfl⟩ := four_list hF
  have e : bsum [a, b, c, d] = a.b + b.b + c.b + d.b := by simp [bsum]; omega
  have h0 := hj 0 a rfl
  have h1 := hj 1 b rfl
  have h2 := hj 2 c rfl
  have h3 := hj 3 d rfl
  rw [e] at h0 h1 h2 h3
  unfold gp
  dsimp only
  rw [if_neg h0, if_neg h1, if_neg h2, if_neg h3]
section
variable {P : Program} {w : World} {K : PySem.W.Frag} {mg : Str → Option Value} {base : Heap}
/-! ### check_word -/
def sp_checkWord (K : PySem.W.Frag) : Sp := fun vs H Q _ => ∃ t ws, vs = [.ref t] ∧ SqT K H t (wv ws) ∧ (∀ k ∈ ws, Num k) ∧ Q .non H
theorem sc_checkWord : FnScope ["word", "letter"] ["word"] (defScope s_checkWord) := ⟨rfl, rfl, rfl, by decide +kernel, rfl, by decide +kernel, by decide +kernel⟩
theorem ok_checkWord (T : Txt K mg) : FnOk P w K mg base CX0 1 T.f_checkWord T.d_checkWord ["word"] (sp_checkWord K) := by
  refine T.F_checkWord.ok sc_checkWord (fun vs H Q E h => ?_) (fun cdv A outer s H vs Q E hr h => ?_)
  · obtain ⟨t, ws, rfl, _⟩ := h
    rfl
  · obtain ⟨t, ws, rfl, hT, hn, k⟩ := h
    refine ⟨_, pss_one <| ps_for PassesOwn.never rfl (pi_tup (pv 0)) (pg_name (i := 1) sc_checkWord.nd rfl (.inl rfl)) <| pss_one <| ps_if (PW.pt (pw_or (pt_val (pe_callB call_isi (by rfl) T.b_isinstance (by decide +kernel) (pa_cons (pv 1) (pa_cons (pe_bltn (v := .ty "bool") (by rfl) T.b_bool (by decide +kernel) rfl) pa_nil))))
      (pw_or1 (pt_cmpR op_notIn_seq (pv 1) (pe_glob (v := .ref T.nL) (by rfl) T.g_nL rfl) (by rfl))))) pss_never pss_nil, ?_⟩
    refine ⟨_, rfl, t, rfl, ⟨_, hT⟩, for_it (walk_tup (K := K) (a := t) (xs := wv ws)) (fun i σ H' => (∃ x, σ = [some (.ref t), x]) ∧ H' = H) ⟨⟨_, rfl⟩, rfl⟩ (fun i σ H' _ g => by rw [g.2]; exact hT) ?_ ?_⟩
    · rintro i x σ H2 H3 hi ⟨⟨x0, rfl⟩, rfl⟩ ⟨rfl, hx⟩
      obtain ⟨n, hm, rfl⟩ : ∃ n ∈ ws, x = V.int (n : Nat) := by
        obtain ⟨n, hn, e⟩ := List.mem_map.mp (List.mem_of_getElem? hx)
        exact ⟨n, hn, e.symm⟩
      refine ⟨_, rfl, _, _, .type "int", .type "bool", false, rfl, .ty "bool", .base (.int _), kit_ty (by decide +kernel), _, rfl, ?_⟩
      refine iteF ?_
      refine ⟨_, rfl, T.nL, _, rfl, .inr (T.sq_nL _), rfl, rfl, _, rfl, ?_⟩
      have e : inV (.int (n : Nat)) [.int 1, .int 2, .int 3, .int 4] = true := by
        rcases hn n hm with rfl | rfl | rfl | rfl <;> decide
      rw [e]
      exact ⟨⟨_, rfl⟩, rfl⟩
    · rintro σ H2 ⟨⟨x0, rfl⟩, rfl⟩
      exact k
/-! ### fours_along -/
def sp_foursAlong (K : PySem.W.Frag) (C : Addr) : Sp := fun vs H Q _ => ∃ v t ws F, vs = [v, .ref t] ∧ FourAt C H v F ∧ F.length = 4 ∧ SqT K H t (wv ws) ∧ (∀ k ∈ ws, Num k) ∧ okWalk F ws = true ∧ ws.length ≤ 1000 ∧
  ∀ l H' us u, Same H H' → H' l = some (.lst (us ++ [u])) → FourAt C H' u (at4 F ws) → Q (.ref l) H'
abbrev N_foursAlong : List Str := ["four", "word", "found", "letter"]
theorem sc_foursAlong : FnScope N_foursAlong ["four", "word"] (defScope s_foursAlong) := ⟨rfl, rfl, rfl, by decide +kernel, rfl, by decide +kernel, by decide +kernel⟩
theorem ok_foursAlong (T : Txt K mg) : FnOk P w K mg base CX0 8 T.f_foursAlong T.d_foursAlong ["four", "word"] (sp_foursAlong K T.cF) := by
  refine T.F_foursAlong.ok sc_foursAlong (fun vs H Q E h => ?_) (fun cdv A outer s H vs Q E hr h => ?_)
  · obtain ⟨v, t, ws, F, rfl, _⟩ := h
    rfl
  · obtain ⟨v, t, ws, F, rfl, hv, hF, hT, hn, hok, hlen, k⟩ := h
    refine ⟨_, pss_cons (ps_expr (pe_call (ok_checkWord T) (hr.mono (by decide)) (by rfl) T.g_checkWord T.F_checkWord.kp T.y_checkWord .nil pass0 (pa_cons (pv 1) pa_nil))) <|
      pss_cons (ps_set (i := 2) sc_foursAlong.nd rfl (.inl rfl) (pe_lst (pa_cons (pv 0) pa_nil))) <|
      pss_cons (ps_for PassesOwn.never rfl (pi_tup (pv 1)) (pg_name (i := 3) sc_foursAlong.nd rfl (.inl rfl)) <| pss_one <| ps_expr <|
        pe_bm PySem.F.plainAttrs_list PySem.F.slot_list_append PySem.F.type_list_append mt_append (pv 2) (pa_cons (pe_meth (pe_ix ix_list (pv 2) (pe_un un_neg pe_int) (fun _ _ => rfl)) T.clF T.m_fExch (ok_fExch T) hr T.y_fExch .nil pass0 (pa_cons (pv 3) pa_nil)) pa_nil)) <|
      pss_one (ps_ret (pv 2)), ?_⟩
    refine ⟨_, rfl, t, ws, rfl, hT, hn, ?_⟩
    refine ⟨_, rfl, by show 1 ≤ sizeLine; decide, fun o ho => ?_⟩
    have s1 : Same H (upd H o (.lst [v])) := same_upd ho
    refine ⟨_, rfl, t, rfl, ⟨_, sqT s1 hT⟩, for_it (walk_tup (K := K) (a := t) (xs := wv ws)) (fun i σ H' => (∃ x, σ = [some v, some (.ref t), some (.ref o), x]) ∧ Same H H' ∧ ∃ us u, H' o = some (.lst (us ++ [u])) ∧ us.length = i ∧ FourAt T.cF H' u (at4 F (ws.take i))) ⟨⟨_, rfl⟩, s1, [], v, upd_same, rfl, hv.same s1⟩ (fun i σ H' _ g => sqT g.2.1 hT) ?_ ?_⟩
    · rintro i x σ H2 H3 hi ⟨⟨x0, rfl⟩, s2, us, u, e2, l2, hu⟩ ⟨rfl, hx⟩
      unfold wv at hx
      rw [List.getElem?_map] at hx
      obtain ⟨n, hm, e⟩ := Option.map_eq_some_iff.mp hx
      subst e
      have hnn := hn n (List.mem_of_getElem? hm)
      have hL4 := at4_len hF (ws.take i)
      have hok2 := okWalk_at hok hm
      have hi1 : i < ws.length := by simpa [wv] using hi
      have hu0 := hu
      obtain ⟨a, dx, t3, vs3, rfl, g1, g2, g3⟩ := hu
      refine ⟨_, rfl, .inl ⟨rfl, _, SqL.of e2⟩, _, rfl, _, rfl, o, _, _, _, rfl, rfl, SqL.of e2, atI_last _ _, a, dx, _, rfl, g1, rfl, _, rfl, _, _, n, rfl, hu0, hL4, hnn, hok2, fun u2 H4 s4 hu2 => ?_⟩
      refine ⟨o, _, _, rfl, rfl, s4 _ _ e2, Nat.lt_of_le_of_lt (m := 1001) (by rw [List.length_append, l2, List.length_singleton]; omega) (by decide), ?_⟩
      have e4 := s4 _ _ e2
      have no : H o = none := ho
      refine ⟨⟨_, rfl⟩, Same.mut (s2.trans s4) no, us ++ [.ref a], u2, upd_same, by rw [List.length_append, l2]; rfl, ?_⟩
      rw [take_succ_at hm, at4_snoc]
      obtain ⟨a2, dx2, t4, vs4, rfl, k1, k2, k3⟩ := hu2
      refine ⟨a2, dx2, t4, vs4, rfl, ?_, ?_, CisAt.mut k3 e4⟩
      · rw [upd_ne (ne_of k1 e4 (by intro z; cases z))]
        exact k1
      · rw [upd_ne (ne_of k2 e4 (by intro z; cases z))]
        exact k2
    · rintro σ H2 ⟨⟨x0, rfl⟩, s2, us, u, e2, l2, hu⟩
      have el : (wv ws).length = ws.length := by simp [wv]
      rw [el, List.take_length] at hu
      exact ⟨_, rfl, k o H2 us u s2 e2 hu⟩
/-! ### four_at -/
def sp_fourAt (K : PySem.W.Frag) (C : Addr) : Sp := fun vs H Q _ => ∃ v t ws F, vs = [v, .ref t] ∧ FourAt C H v F ∧ F.length = 4 ∧ SqT K H t (wv ws) ∧ (∀ k ∈ ws, Num k) ∧ okWalk F ws = true ∧ ws.length ≤ 1000 ∧
  ∀ u H', Same H H' → FourAt C H' u (at4 F ws) → Q u H'
theorem sc_fourAt : FnScope ["four", "word"] ["four", "word"] (defScope s_fourAt) := ⟨rfl, rfl, rfl, by decide +kernel, rfl, by decide +kernel, by decide +kernel⟩
theorem ok_fourAt (T : Txt K mg) : FnOk P w K mg base CX0 9 T.f_fourAt T.d_fourAt ["four", "word"] (sp_fourAt K T.cF) := by
  refine T.F_fourAt.ok sc_fourAt (fun vs H Q E h => ?_) (fun cdv A outer s H vs Q E hr h => ?_)
  · obtain ⟨v, t, ws, F, rfl, _⟩ := h
    rfl
  · obtain ⟨v, t, ws, F, rfl, hv, hF, hT, hn, hok, hlen, k⟩ := h
    refine ⟨_, pss_one <| ps_ret <| pe_ix ix_list (pe_call (ok_foursAlong T) hr (by rfl) T.g_foursAlong T.F_foursAlong.kp T.y_foursAlong .nil pass0 (pa_cons (pv 0) (pa_cons (pv 1) pa_nil))) (pe_un un_neg pe_int) (fun _ _ => rfl), ?_⟩
    refine ⟨_, rfl, _, rfl, v, t, ws, F, rfl, hv, hF, hT, hn, hok, hlen, fun l H' us u s1 e1 hu => ?_⟩
    exact ⟨_, rfl, l, _, _, u, rfl, rfl, SqL.of e1, atI_last _ _, k u H' s1 hu⟩
end
end K51
/-! K51W7: roots. -/
namespace K51
open PySem L2
section
variable {P : Program} {w : World} {K : PySem.W.Frag} {mg : Str → Option Value} {base : Heap}
/-! ### greater_place -/
def sp_greaterPlace (C : Addr) : Sp := fun vs H Q _ => ∃ v F, vs = [v] ∧ FourAt C H v F ∧ F.length = 4 ∧ ∀ H', Same H H' → Q (gpV F) H'
abbrev N_greaterPlace : List Str := ["four", "curvatures", "number", "curvature"]
theorem sc_greaterPlace : FnScope N_greaterPlace ["four"] (defScope s_greaterPlace) := ⟨rfl, rfl, rfl, by decide +kernel, rfl, by decide +kernel, by decide +kernel⟩
theorem ok_greaterPlace (T : Txt K mg) : FnOk P w K mg base CX0 2 T.f_greaterPlace T.d_greaterPlace ["four"] (sp_greaterPlace T.cF) := by
  refine T.F_greaterPlace.ok sc_greaterPlace (fun vs H Q E h => ?_) (fun cdv A outer s H vs Q E hr h => ?_)
  · obtain ⟨v, F, rfl, _⟩ := h
    rfl
  · obtain ⟨v, F, rfl, hv, hF, k⟩ := h
    refine ⟨_, pss_cons (ps_set (i := 1) sc_greaterPlace.nd rfl (.inl rfl) (pe_meth0 (pv 0) T.clF T.m_fCurv (ok_fCurv T) hr T.y_fCurv .nil pass0)) <|
      pss_cons (ps_for PassesOwn.never rfl (pi_enumT1 (by rfl) T.b_enumerate (pa_cons (pv 1) (pa_cons pe_int pa_nil))) (pg_tup rfl (pgs_cons (pg_name (i := 2) sc_greaterPlace.nd rfl (.inl rfl)) (pgs_cons (pg_name (i := 3) sc_greaterPlace.nd rfl (.inl rfl)) pgs_nil))) <|
        pss_one <| ps_if (pt_cmpR op_gt (pe_op op_mul pe_int (pv 3)) (pe_callB (cr_sumT rfl) (by rfl) T.b_sum (by decide +kernel) (pa_cons (pv 1) pa_nil)) (nomark _)) (pss_one (ps_ret (pv 2))) pss_nil) <|
      pss_one (ps_ret pe_non), ?_⟩
    obtain ⟨a, dx, t, us, rfl, h1, h2, h3⟩ := id hv
    refine ⟨_, rfl, a, dx, _, rfl, h1, rfl, _, F, rfl, hv, Nat.le_of_eq hF, fun t2 H2 s2 n2 ht => ?_⟩
    have sq2 : ∀ H', Same H2 H' → SqT K H' t2 (F.map fun p => V.int p.b) := fun H' s => sqT s ht.sq
    have el : (F.map fun p => V.int p.b).length = 4 := by rw [List.length_map, hF]
    refine ⟨_, rfl, t2, _, rfl, ht.sq, for_it (walk_enumT (K := K) (a := t2) (k := 1) (xs := F.map fun p => V.int p.b)) (fun i σ H' => (∃ x y, σ = [some (.ref a), some (.ref t2), x, y]) ∧ Same H2 H' ∧ ∀ (j : Nat) (q : Ci), j < i → F[j]? = some q → ¬ bsum F < 2 * q.b)
      ⟨⟨_, _, rfl⟩, Same.refl _, fun j q hj => absurd hj (Nat.not_lt_zero _)⟩ (fun i σ H' _ g => sq2 _ g.2.1) ?_ ?_⟩
    · rintro i x σ H6 H7 hi ⟨⟨x0, y0, rfl⟩, s6, hno⟩ ⟨Tp, x1, x2, rfl, nT, rfl, f1, f2⟩
      dsimp only at f1 f2
      obtain rfl := Option.some.inj f1
      rw [List.getElem?_map] at f2
      obtain ⟨p, hp, rfl⟩ := Option.map_eq_some_iff.mp f2
      have s7 := Same.new (o := .tup [.int (1 + (i : Nat)), .int p.b]) s6 nT
      refine ⟨Tp, _, rfl, SqT.of upd_same, rfl, _, _, rfl, _, _, rfl, rfl, ?_⟩
      refine ⟨_, rfl, _, _, rfl, rfl, mul2 _, _, rfl, t2, F.map (·.b), rfl, ?_, _, _, rfl, rfl, _, rfl, ?_⟩
      · rw [List.map_map]
        exact sq2 _ s7
      · refine ite2 (fun h => ?_) (fun h => ?_)
        · have h' : bsum F < 2 * p.b := of_decide_eq_true h
          refine ⟨_, rfl, ?_⟩
          have e := k _ (s2.trans s7)
          have eg : gpV F = .int (1 + (i : Nat)) := by
            unfold gpV
            rw [gp_some hF hp h' hno]
            show V.int ((i + 1 : Nat) : Int) = _
            congr 1
            omega
          rw [eg] at e
          exact e
        · have h' : ¬ bsum F < 2 * p.b := fun q => h (decide_eq_true q)
          refine ⟨⟨_, _, rfl⟩, s7, fun j q hj hq => ?_⟩
          by_cases hji : j = i
          · subst hji
            rw [hp] at hq
            cases hq
            exact h'
          · exact hno j q (by omega) hq
    · rintro σ H6 ⟨⟨x0, y0, rfl⟩, s6, hno⟩
      have e := k _ (s2.trans s6)
      have eg : gpV F = .non := by
        unfold gpV
        rw [gp_none hF fun j q hq => hno j q (by rw [el, ← hF]; exact (List.getElem?_eq_some_iff.mp hq).1) hq]
      rw [eg] at e
      exact e
/-! ### way_down -/
def sp_wayDown (C : Addr) : Sp := fun vs H Q _ => ∃ v F n ws R, vs = [v] ∧ FourAt C H v F ∧ F.length = 4 ∧ wd n F = some (ws, R) ∧ ws.length ≤ 1000 ∧ ∀ t H', Same H H' → H' t = some (.tup (wv ws)) → Q (.ref t) H'
abbrev N_wayDown : List Str := ["four", "word", "number"]
theorem sc_wayDown : FnScope N_wayDown ["four"] (defScope s_wayDown) := ⟨rfl, rfl, rfl, by decide +kernel, rfl, by decide +kernel, by decide +kernel⟩
theorem wv_snoc (ws : List Nat) (k : Nat) : wv (ws ++ [k]) = wv ws ++ [.int (k : Nat)] := by
  unfold wv
  rw [List.map_append]
  rfl
theorem ok_wayDown (T : Txt K mg) : FnOk P w K mg base CX0 8 T.f_wayDown T.d_wayDown ["four"] (sp_wayDown T.cF) := by
  refine T.F_wayDown.ok sc_wayDown (fun vs H Q E h => ?_) (fun cdv A outer s H vs Q E hr h => ?_)
  · obtain ⟨v, F, n, ws, R, rfl, _⟩ := h
    rfl
  · obtain ⟨v, F, n, ws, R, rfl, hv, hF, hw, hlen, k⟩ := h
    refine ⟨_, pss_cons (ps_set (i := 1) sc_wayDown.nd rfl (.inl rfl) (pe_lst pa_nil)) <|
      pss_cons (ps_set (i := 2) sc_wayDown.nd rfl (.inl rfl) (pe_call (ok_greaterPlace T) (hr.mono (by decide)) (by rfl) T.g_greaterPlace T.F_greaterPlace.kp T.y_greaterPlace .nil pass0 (pa_cons (pv 0) pa_nil))) <|
      pss_cons (ps_while PassesOwn.never (pt_cmpR op_notN (pv 2) pe_non (nomark _)) <|
        pss_cons (ps_expr (pe_bm PySem.F.plainAttrs_list PySem.F.slot_list_append PySem.F.type_list_append mt_append (pv 1) (pa_cons (pv 2) pa_nil))) <|
        pss_cons (ps_set (i := 0) sc_wayDown.nd rfl (.inl rfl) (pe_meth (pv 0) T.clF T.m_fExch (ok_fExch T) hr T.y_fExch .nil pass0 (pa_cons (pv 2) pa_nil))) <|
        pss_one (ps_set (i := 2) sc_wayDown.nd rfl (.inl rfl) (pe_call (ok_greaterPlace T) (hr.mono (by decide)) (by rfl) T.g_greaterPlace T.F_greaterPlace.kp T.y_greaterPlace .nil pass0 (pa_cons (pv 0) pa_nil)))) <|
      pss_one (ps_ret (pe_callTy call_tuple_of (by rfl) T.b_tuple (by decide +kernel) (pa_cons (pv 1) pa_nil))), ?_⟩
    refine ⟨Nat.zero_le _, fun o ho => ?_⟩
    have s1 : Same H (upd H o (.lst [])) := same_upd ho
    refine ⟨_, rfl, v, F, rfl, hv.same s1, hF, fun H2 s2 => ?_⟩
    refine ⟨fun m σ H' => ∃ v' F' done rest, σ = [some v', some (.ref o), some (gpV F')] ∧ FourAt T.cF H' v' F' ∧ F'.length = 4 ∧ wd m F' = some (rest, R) ∧ done ++ rest = ws ∧ H' o = some (.lst (wv done)) ∧ Same H H',
      ⟨n, v, F, [], ws, rfl, (hv.same s1).same s2, hF, hw, rfl, s2 _ _ upd_same, s1.trans s2⟩, ?_⟩
    rintro m σ H3 ⟨v', F', done, rest, rfl, hv', hF', hw', hd, e3, s3⟩
    refine ⟨_, rfl, rfl, _, rfl, ?_⟩
    cases m with
    | zero => cases hw'
    | succ m =>
      cases hg : gp F' with
      | none =>
        have eg : gpV F' = .non := by
          unfold gpV
          rw [hg]
        rw [eg]
        refine iteF ?_
        unfold wd at hw'
        rw [hg] at hw'
        cases hw'
        rw [List.append_nil] at hd
        subst hd
        refine ⟨_, rfl, o, _, rfl, .inl ⟨SqL.of e3, fun t ht => ?_⟩⟩
        exact k t _ (Same.new s3 ht) upd_same
      | some g =>
        have eg : gpV F' = .int (g : Nat) := by
          unfold gpV
          rw [hg]
        rw [eg]
        refine iteT ?_
        unfold wd at hw'
        rw [hg] at hw'
        dsimp only at hw'
        by_cases hok : okF (exch F' g) = true
        · rw [if_pos hok] at hw'
          obtain ⟨⟨w', R'⟩, q1, q2⟩ := Option.map_eq_some_iff.mp hw'
          cases q2
          have hld : done.length ≤ 1000 := by
            have := congrArg List.length hd
            rw [List.length_append] at this
            omega
          refine ⟨fun σ' H' => ∃ v' F' done rest, σ' = [some v', some (.ref o), some (gpV F')] ∧ FourAt T.cF H' v' F' ∧ F'.length = 4 ∧ wd m F' = some (rest, R') ∧ done ++ rest = ws ∧ H' o = some (.lst (wv done)) ∧ Same H H', fun σ' H' q => ⟨m, Nat.lt_succ_self _, q⟩, ?_⟩
          refine ⟨_, rfl, .inl ⟨rfl, _, SqL.of e3⟩, _, rfl, o, _, _, rfl, rfl, e3, small1000 (by simpa [wv] using hld), ?_⟩
          have no : H o = none := ho
          have s4 : Same H (upd H3 o (.lst (wv done ++ [.int (g : Nat)]))) := Same.mut s3 no
          generalize hH4 : upd H3 o (.lst (wv done ++ [.int (g : Nat)])) = H4
          rw [hH4] at s4
          have e4 : H4 o = some (.lst (wv (done ++ [g]))) := by
            rw [← hH4, upd_same, wv_snoc]
          have hv4 : FourAt T.cF H4 v' F' := by
            obtain ⟨a, dx, t, us, rfl, k1, k2, k3⟩ := hv'
            refine ⟨a, dx, t, us, rfl, ?_, ?_, ?_⟩
            · rw [← hH4, upd_ne (ne_of k1 e3 (by intro z; cases z))]
              exact k1
            · rw [← hH4, upd_ne (ne_of k2 e3 (by intro z; cases z))]
              exact k2
            · rw [← hH4]
              exact CisAt.mut k3 e3
          have hv40 := hv4
          obtain ⟨a, dx, t, us, rfl, k1, k2, k3⟩ := hv4
          refine ⟨_, rfl, a, dx, _, rfl, k1, rfl, _, rfl, _, F', g, rfl, hv40, hF', gp_num hg, hok, fun u H5 s5 hu => ?_⟩
          refine ⟨_, rfl, u, exch F' g, rfl, hu, exch_len hF', fun H6 s6 => ?_⟩
          exact ⟨u, exch F' g, done ++ [g], w', rfl, hu.same s6, exch_len hF', q1, by rw [List.append_assoc]; exact hd, s6 _ _ (s5 _ _ e4), (s4.trans s5).trans s6⟩
        · rw [if_neg hok] at hw'
          cases hw'
/-! ### root_of -/
def sp_rootOf (C : Addr) : Sp := fun vs H Q _ => ∃ v F n ws R, vs = [v] ∧ FourAt C H v F ∧ F.length = 4 ∧ n ≤ 1000 ∧ wd n F = some (ws, R) ∧ ∀ u H', Same H H' → FourAt C H' u R → Q u H'
theorem sc_rootOf : FnScope ["four"] ["four"] (defScope s_rootOf) := ⟨rfl, rfl, rfl, by decide +kernel, rfl, by decide +kernel, by decide +kernel⟩
theorem ok_rootOf (T : Txt K mg) : FnOk P w K mg base CX0 10 T.f_rootOf T.d_rootOf ["four"] (sp_rootOf T.cF) := by
  refine T.F_rootOf.ok sc_rootOf (fun vs H Q E h => ?_) (fun cdv A outer s H vs Q E hr h => ?_)
  · obtain ⟨v, F, n, ws, R, rfl, _⟩ := h
    rfl
  · obtain ⟨v, F, n, ws, R, rfl, hv, hF, hn, hw, k⟩ := h
    obtain ⟨a1, a2, a3, a4⟩ := wd_at hw
    refine ⟨_, pss_one <| ps_ret <| pe_call (ok_fourAt T) hr (by rfl) T.g_fourAt T.F_fourAt.kp T.y_fourAt .nil pass0 (pa_cons (pv 0) (pa_cons (pe_call (ok_wayDown T) (hr.mono (by decide)) (by rfl) T.g_wayDown T.F_wayDown.kp T.y_wayDown .nil pass0 (pa_cons (pv 0) pa_nil)) pa_nil)), ?_⟩
    refine ⟨_, rfl, _, rfl, v, F, n, ws, R, rfl, hv, hF, hw, by omega, fun t H2 s2 e2 => ?_⟩
    refine ⟨v, t, ws, F, rfl, hv.same s2, hF, SqT.of e2, a3, a2, by omega, fun u H3 s3 hu => ?_⟩
    rw [a1] at hu
    exact k u H3 (s2.trans s3) hu
/-! ### bounded_root -/
def sp_boundedRoot (C : Addr) : Sp := fun vs H Q _ => ∃ v F n ws R, vs = [v] ∧ FourAt C H v F ∧ F.length = 4 ∧ n ≤ 1000 ∧ wd n F = some (ws, R) ∧ strip R = false ∧ ∀ u H', Same H H' → FourAt C H' u R → Q u H'
theorem sc_boundedRoot : FnScope ["four", "root"] ["four"] (defScope s_boundedRoot) := ⟨rfl, rfl, rfl, by decide +kernel, rfl, by decide +kernel, by decide +kernel⟩
theorem ok_boundedRoot (T : Txt K mg) : FnOk P w K mg base CX0 11 T.f_boundedRoot T.d_boundedRoot ["four"] (sp_boundedRoot T.cF) := by
  refine T.F_boundedRoot.ok sc_boundedRoot (fun vs H Q E h => ?_) (fun cdv A outer s H vs Q E hr h => ?_)
  · obtain ⟨v, F, n, ws, R, rfl, _⟩ := h
    rfl
  · obtain ⟨v, F, n, ws, R, rfl, hv, hF, hn, hw, hs, k⟩ := h
    obtain ⟨a1, a2, a3, a4⟩ := wd_at hw
    have hR : R.length = 4 := by
      rw [← a1]
      exact at4_len hF ws
    refine ⟨_, pss_cons (ps_set (i := 1) sc_boundedRoot.nd rfl (.inl rfl) (pe_call (ok_rootOf T) hr (by rfl) T.g_rootOf T.F_rootOf.kp T.y_rootOf .nil pass0 (pa_cons (pv 0) pa_nil))) <|
      pss_cons (ps_if (pt_val (pe_meth0 (pv 1) T.clF T.m_fStrip (ok_fStrip T) (hr.mono (by decide)) T.y_fStrip .nil pass0)) pss_never pss_nil) <|
      pss_one (ps_ret (pv 1)), ?_⟩
    refine ⟨_, rfl, v, F, n, ws, R, rfl, hv, hF, hn, hw, fun u H2 s2 hu => ?_⟩
    have hu0 := hu
    obtain ⟨a, dx, t, us, rfl, k1, k2, k3⟩ := hu
    refine ⟨_, rfl, a, dx, _, rfl, k1, rfl, _, R, rfl, hu0, Nat.le_of_eq hR, fun H3 s3 => ?_⟩
    rw [hs]
    refine ⟨_, rfl, iteF ?_⟩
    exact ⟨_, rfl, k _ H3 (s2.trans s3) (hu0.same s3)⟩
end
end K51
/-! K51W8: the search. -/
namespace K51
open PySem L2
theorem FourAt.mut {C : Addr} {H : Hp} {v : V} {F : Fo} {D : Addr} {o : HO} {xs : List V} (h : FourAt C H v F) (e : H D = some (.lst xs)) : FourAt C (upd H D o) v F := by
  obtain ⟨a, dx, t, us, rfl, k1, k2, k3⟩ := h
  refine ⟨a, dx, t, us, rfl, ?_, ?_, CisAt.mut k3 e⟩
  · rw [upd_ne (ne_of k1 e (by intro z; cases z))]
    exact k1
  · rw [upd_ne (ne_of k2 e (by intro z; cases z))]
    exact k2
/-! ### the Search object -/
def sf0 (m : Int) (fl : Addr) : List (Str × V) := [("most", .int m), ("limit", .int 2000), ("found", .ref fl)]
def sf1 (m : Int) (fl wl : Addr) : List (Str × V) := [("most", .int m), ("limit", .int 2000), ("found", .ref fl), ("waiting", .ref wl)]
theorem ne_ml : ¬ (("most" : Str) = "limit") := by decide +kernel
theorem ne_mf : ¬ (("most" : Str) = "found") := by decide +kernel
theorem ne_lf : ¬ (("limit" : Str) = "found") := by decide +kernel
theorem ne_mw : ¬ (("most" : Str) = "waiting") := by decide +kernel
theorem ne_lw : ¬ (("limit" : Str) = "waiting") := by decide +kernel
theorem ne_fw : ¬ (("found" : Str) = "waiting") := by decide +kernel
theorem lk_hit {α : Type} {a b : Str} {v : α} {r : List (Str × α)} (h : a = b) : ((b, v) :: r).lookup a = some v := by
  subst h
  rw [List.lookup_cons, beq_self_eq_true]
theorem lk_miss {α : Type} {a b : Str} {v : α} {r : List (Str × α)} (h : ¬ a = b) : ((b, v) :: r).lookup a = r.lookup a := by
  rw [List.lookup_cons, beq_eq_false_iff_ne.mpr h]
theorem sf0_m (m : Int) (fl : Addr) : (sf0 m fl).lookup ("most" : Str) = some (.int m) := lk_hit rfl
theorem sf0_l (m : Int) (fl : Addr) : (sf0 m fl).lookup ("limit" : Str) = some (.int 2000) := (lk_miss (Ne.symm ne_ml)).trans (lk_hit rfl)
theorem sf0_f (m : Int) (fl : Addr) : (sf0 m fl).lookup ("found" : Str) = some (.ref fl) := (lk_miss (Ne.symm ne_mf)).trans ((lk_miss (Ne.symm ne_lf)).trans (lk_hit rfl))
theorem sf0_n (m : Int) (fl : Addr) {x : Str} (h1 : ¬ x = "most") (h2 : ¬ x = "limit") (h3 : ¬ x = "found") : (sf0 m fl).lookup x = none := (lk_miss h1).trans ((lk_miss h2).trans (lk_miss h3))
theorem sf1_m (m : Int) (fl wl : Addr) : (sf1 m fl wl).lookup ("most" : Str) = some (.int m) := lk_hit rfl
theorem sf1_l (m : Int) (fl wl : Addr) : (sf1 m fl wl).lookup ("limit" : Str) = some (.int 2000) := (lk_miss (Ne.symm ne_ml)).trans (lk_hit rfl)
theorem sf1_f (m : Int) (fl wl : Addr) : (sf1 m fl wl).lookup ("found" : Str) = some (.ref fl) := (lk_miss (Ne.symm ne_mf)).trans ((lk_miss (Ne.symm ne_lf)).trans (lk_hit rfl))
theorem sf1_w (m : Int) (fl wl : Addr) : (sf1 m fl wl).lookup ("waiting" : Str) = some (.ref wl) := (lk_miss (Ne.symm ne_mw)).trans ((lk_miss (Ne.symm ne_lw)).trans ((lk_miss (Ne.symm ne_fw)).trans (lk_hit rfl)))
theorem sf1_n (m : Int) (fl wl : Addr) {x : Str} (h1 : ¬ x = "most") (h2 : ¬ x = "limit") (h3 : ¬ x = "found") (h4 : ¬ x = "waiting") : (sf1 m fl wl).lookup x = none := (lk_miss h1).trans ((lk_miss h2).trans ((lk_miss h3).trans (lk_miss h4)))
theorem put_miss {a b : Str} {v u : V} {r : List (Str × V)} (h : ¬ b = a) : putF a v ((b, u) :: r) = (b, u) :: putF a v r := by
  show (if b = a then (b, v) :: r else (b, u) :: putF a v r) = _
  rw [if_neg h]
theorem put3 (m : Int) (fl : Addr) : putF "found" (.ref fl) (putF "limit" (.int 2000) (putF "most" (.int m) [])) = sf0 m fl := by
  show putF "found" (.ref fl) (putF "limit" (.int 2000) [("most", .int m)]) = sf0 m fl
  rw [put_miss ne_ml]
  show putF "found" (.ref fl) [("most", .int m), ("limit", .int 2000)] = sf0 m fl
  rw [put_miss ne_mf, put_miss ne_lf]
  rfl
theorem put4 (m : Int) (fl wl : Addr) : putF "waiting" (.ref wl) (sf0 m fl) = sf1 m fl wl := by
  unfold sf0
  rw [put_miss ne_mw, put_miss ne_lw, put_miss ne_fw]
  rfl
section
variable {P : Program} {w : World} {K : PySem.W.Frag} {mg : Str → Option Value} {base : Heap}
/-! ### Search.note -/
def sp_sNote (C : Addr) : Sp := fun vs H Q _ => ∃ p u q dx fs m fl acc, vs = [.ref p, u] ∧ H p = some (.ins C dx fs) ∧ fs.lookup ("most" : Str) = some (.int m) ∧ fs.lookup ("limit" : Str) = some (.int 2000) ∧ fs.lookup ("found" : Str) = some (.ref fl) ∧
  H fl = some (.lst acc) ∧ acc.length ≤ 1000 ∧ CiAt H u q ∧ (m < q.b → Q (.bl false) H) ∧ (¬ m < q.b → Q (.bl true) (upd H fl (.lst (acc ++ [u]))))
theorem sc_sNote : FnScope ["self", "circle"] ["self", "circle"] (defScope s_sNote) := ⟨rfl, rfl, rfl, by decide +kernel, rfl, by decide +kernel, by decide +kernel⟩
theorem ok_sNote (T : Txt K mg) : FnOk P w K mg base CX0 1 T.f_sNote T.d_sNote ["self", "circle"] (sp_sNote T.cS) := by
  refine T.F_sNote.ok sc_sNote (fun vs H Q E h => ?_) (fun cdv A outer s H vs Q E hr h => ?_)
  · obtain ⟨p, u, q, dx, fs, m, fl, acc, rfl, _⟩ := h
    rfl
  · obtain ⟨p, u, q, dx, fs, m, fl, acc, rfl, h1, l1, l2, l3, h2, hl, ⟨c, rfl, hc⟩, k1, k2⟩ := h
    refine ⟨_, pss_cons (ps_if (pt_cmpR op_gt (pe_ix ix_tup (pv 1) pe_int (fun _ _ => rfl)) (pe_fld (pv 0) rfl) (nomark _)) (pss_one (ps_ret pe_bl)) pss_nil) <|
      pss_cons (ps_if (pt_cmpR op_eq (pe_callB call_len_seq (by rfl) T.b_len PySem.boot_len (pa_cons (pe_fld (pv 0) rfl) pa_nil)) (pe_fld (pv 0) rfl) (nomark _)) pss_never pss_nil) <|
      pss_cons (ps_expr (pe_bm PySem.F.plainAttrs_list PySem.F.slot_list_append PySem.F.type_list_append mt_append (pe_fld (pv 0) rfl) (pa_cons (pv 1) pa_nil))) <|
      pss_one (ps_ret pe_bl), ?_⟩
    refine ⟨_, rfl, c, _, _, _, rfl, rfl, SqT.of hc, atI_nat (j := 0) rfl, _, rfl, p, _, dx, fs, _, rfl, h1, T.clS, T.na_most, l1, _, _, rfl, rfl, _, rfl, ?_⟩
    refine ite2 (fun h => ?_) (fun h => ?_)
    · exact k1 (of_decide_eq_true h)
    · refine ⟨_, rfl, p, _, dx, fs, _, rfl, h1, T.clS, T.na_found, l3, fl, _, rfl, .inl (SqL.of h2), _, rfl, p, _, dx, fs, _, rfl, h1, T.clS, T.na_limit, l2, rfl, _, rfl, ?_⟩
      have e : decide (V.int (acc.length : Nat) = V.int 2000) = false := by
        rw [dec_int']
        exact decide_eq_false (by omega)
      rw [e]
      refine iteF ?_
      refine ⟨_, rfl, p, _, dx, fs, _, rfl, h1, T.clS, T.na_found, l3, .inl ⟨rfl, _, SqL.of h2⟩, _, rfl, fl, _, _, rfl, rfl, h2, small1000 hl, ?_⟩
      exact k2 fun q => h (decide_eq_true q)
/-! ### Search.__init__ -/
def sp_sInit (C CF : Addr) : Sp := fun vs H Q _ => ∃ p dx vr m R, vs = [.ref p, vr, .int m, .int 2000] ∧ H p = some (.ins C dx []) ∧ FourAt CF H vr R ∧ R.length = 4 ∧
  ∀ fl wl t acc H', (∀ b o, H b = some o → b ≠ p → H' b = some o) → H fl = none → H wl = none → H' p = some (.ins C dx (sf1 m fl wl)) → H' fl = some (.lst acc) → CisAt H' acc (sstart m R) → H' wl = some (.lst [.ref t]) → H' t = some (.tup [vr, .int 0]) → wl ≠ fl → Q .non H'
abbrev N_sInit : List Str := ["self", "root", "most", "limit", "circle"]
theorem sc_sInit : FnScope N_sInit ["self", "root", "most", "limit"] (defScope s_sInit) := ⟨rfl, rfl, rfl, by decide +kernel, rfl, by decide +kernel, by decide +kernel⟩
theorem sstart_snoc (m : Int) {R : Fo} {i : Nat} {q : Ci} (h : R[i]? = some q) : sstart m (R.take (i + 1)) = if m < q.b then sstart m (R.take i) else sstart m (R.take i) ++ [q] := by
  unfold sstart
  rw [take_succ_at h, List.filter_append]
  by_cases hm : m < q.b
  · rw [if_pos hm]
    have : decide (q.b ≤ m) = false := decide_eq_false (by omega)
    simp [this]
  · rw [if_neg hm]
    have : decide (q.b ≤ m) = true := decide_eq_true (by omega)
    simp [this]
theorem ok_sInit (T : Txt K mg) : FnOk P w K mg base CX0 2 T.f_sInit T.d_sInit ["self", "root", "most", "limit"] (sp_sInit T.cS T.cF) := by
  refine T.F_sInit.ok sc_sInit (fun vs H Q E h => ?_) (fun cdv A outer s H vs Q E hr h => ?_)
  · obtain ⟨p, dx, vr, m, R, rfl, _⟩ := h
    rfl
  · obtain ⟨p, dx, vr, m, R, rfl, h1, hv, hR, k⟩ := h
    refine ⟨_, pss_cons (ps_fld (pv 0) (pv 2) rfl) <| pss_cons (ps_fld (pv 0) (pv 3) rfl) <| pss_cons (ps_fld (pv 0) (pe_lst pa_nil) rfl) <|
      pss_cons (ps_for PassesOwn.never rfl (pi_tup (pe_fld (pv 1) rfl)) (pg_name (i := 4) sc_sInit.nd rfl (.inl rfl)) <| pss_one <| ps_expr <| pe_meth (pv 0) T.clS T.m_sNote (ok_sNote T) hr T.y_sNote .nil pass0 (pa_cons (pv 4) pa_nil)) <|
      pss_one (ps_fld (pv 0) (pe_lst (pa_cons (pe_tup (pa_cons (pv 1) (pa_cons pe_int pa_nil))) pa_nil)) rfl), ?_⟩
    obtain ⟨a, dxr, tr, us, rfl, r1, r2, r3⟩ := hv
    have nap : a ≠ p := fun e => by
      rw [e, h1] at r1
      injection r1 with r1
      injection r1 with _ _ r4
      cases r4
    have ntp : tr ≠ p := ne_of r2 h1 (by intro z; cases z)
    refine ⟨_, rfl, _, rfl, p, T.cS, dx, [], rfl, h1, T.clS, T.na_most, by decide, ?_⟩
    refine ⟨_, rfl, _, rfl, p, T.cS, dx, _, rfl, upd_same, T.clS, T.na_limit, by show 1 < 1000; decide, ?_⟩
    refine ⟨Nat.zero_le _, fun fl hfl => ?_⟩
    have nfp : fl ≠ p := fun e => by
      rw [e, upd_same] at hfl
      cases hfl
    have hfl0 : H fl = none := by
      rw [upd_ne nfp, upd_ne nfp] at hfl
      exact hfl
    refine ⟨_, rfl, p, T.cS, dx, _, rfl, by rw [upd_ne nfp.symm]; exact upd_same, T.clS, T.na_found, ?_, ?_⟩
    · exact Nat.lt_of_le_of_lt (Nat.le_trans (length_putF _ _ _) (Nat.succ_le_succ (length_putF _ _ _))) (by decide)
    · rw [put3]
      generalize hH2 : upd (upd (upd (upd H p _) p _) fl (.lst [])) p (.ins T.cS dx (sf0 m fl)) = H2
      have e2 : H2 p = some (.ins T.cS dx (sf0 m fl)) := by
        rw [← hH2]
        exact upd_same
      have ef : H2 fl = some (.lst []) := by
        rw [← hH2, upd_ne nfp, upd_same]
      have s2 : ∀ b o, H b = some o → b ≠ p → H2 b = some o := fun b o e n => by
        rw [← hH2, upd_ne n, upd_ne (ne_of_none e hfl0), upd_ne n, upd_ne n]
        exact e
      have c2 : CisAt H2 us R := Paired.mapP r3 fun v q ⟨c, ec, hc⟩ => ⟨c, ec, s2 _ _ hc (ne_of hc h1 (by intro z; cases z))⟩
      refine ⟨_, rfl, a, _, dxr, _, _, rfl, s2 _ _ r1 nap, T.clF, T.naC, rfl, tr, rfl, ⟨us, SqT.of (s2 _ _ r2 ntp)⟩, for_it (walk_tup (K := K) (a := tr) (xs := us))
        (fun i σ H' => (∃ x, σ = [some (.ref p), some (.ref a), some (.int m), some (.int 2000), x]) ∧ (∀ b o, H b = some o → b ≠ p → H' b = some o) ∧ H' p = some (.ins T.cS dx (sf0 m fl)) ∧ ∃ acc, H' fl = some (.lst acc) ∧ acc.length ≤ i ∧ CisAt H' acc (sstart m (R.take i)))
        ⟨⟨_, rfl⟩, s2, e2, [], ef, Nat.le_refl _, .nil⟩ (fun i σ H' _ g => SqT.of (g.2.1 _ _ r2 ntp)) ?_ ?_⟩
      · rintro i x σ H3 H4 hi ⟨⟨x0, rfl⟩, s3, e3, acc, f3, l3, c3⟩ ⟨rfl, hx⟩
        obtain ⟨q, hq, rq⟩ := paired_at' r3 hx
        have rq3 : CiAt H4 x q := by
          obtain ⟨c, ec, hc⟩ := rq
          exact ⟨c, ec, s3 _ _ hc (ne_of hc h1 (by intro z; cases z))⟩
        have hlen : us.length = 4 := by rw [Paired.length r3, hR]
        have ess := sstart_snoc m hq
        refine ⟨_, rfl, p, dx, _, rfl, e3, sf0_n m fl (by decide +kernel) (by decide +kernel) (by decide +kernel), _, rfl, p, x, q, dx, _, m, fl, acc, rfl, e3, sf0_m m fl, sf0_l m fl, sf0_f m fl, f3, by omega, rq3, fun hm => ?_, fun hm => ?_⟩
        · rw [if_pos hm] at ess
          exact ⟨⟨_, rfl⟩, s3, e3, acc, f3, by omega, by rw [ess]; exact c3⟩
        · rw [if_neg hm] at ess
          refine ⟨⟨_, rfl⟩, fun b o e n => ?_, ?_, acc ++ [x], upd_same, by rw [List.length_append]; exact Nat.succ_le_succ l3, ?_⟩
          · rw [upd_ne (ne_of_none e hfl0)]
            exact s3 _ _ e n
          · rw [upd_ne nfp.symm]
            exact e3
          · rw [ess]
            exact CisAt.mut (paired_snoc rq3 c3) f3
      · rintro σ H3 ⟨⟨x0, rfl⟩, s3, e3, acc, f3, l3, c3⟩
        have hlen : us.length = R.length := Paired.length r3
        rw [hlen, List.take_length] at c3
        refine ⟨_, rfl, by show 2 ≤ sizeLine; decide, fun t ht => ⟨by show 1 ≤ sizeLine; decide, fun wl hwl => ?_⟩⟩
        have s4 : Same H3 (upd (upd H3 t (.tup [.ref a, .int 0])) wl (.lst [.ref t])) := (same_upd ht).trans (same_upd hwl)
        have npt : p ≠ t := ne_of_none e3 ht
        have npw : p ≠ wl := ne_of_none ((same_upd ht) _ _ e3) hwl
        have nfw : fl ≠ wl := ne_of_none ((same_upd ht) _ _ f3) hwl
        have ntw : t ≠ wl := ne_of_none upd_same hwl
        refine ⟨_, rfl, p, T.cS, dx, _, rfl, s4 _ _ e3, T.clS, T.na_waiting, by show 3 < 1000; decide, ?_⟩
        rw [put4]
        have hwl0 : H wl = none := by
          cases e : H wl with
          | none => rfl
          | some o =>
            have := (same_upd (o := .tup [.ref a, .int 0]) ht) _ _ (s3 _ _ e (fun z => npw z.symm))
            rw [hwl] at this
            cases this
        refine k fl wl t acc _ (fun b o e n => ?_) hfl0 hwl0 upd_same ?_ ?_ ?_ ?_ nfw.symm
        · rw [upd_ne n]
          exact s4 _ _ (s3 _ _ e n)
        · rw [upd_ne nfp]
          exact s4 _ _ f3
        · refine Paired.mapP c3 fun v q ⟨c, ec, hc⟩ => ⟨c, ec, ?_⟩
          rw [upd_ne (ne_of hc e3 (by intro z; cases z))]
          exact s4 _ _ hc
        · rw [upd_ne npw.symm, upd_same]
        · rw [upd_ne npt.symm, upd_ne ntw, upd_same]
end
end K51
/-! K51W9: the search runs. -/
namespace K51
open PySem L2
def il (p : Ci) : List Int := [p.b, p.c, p.x, p.y]
/-- p is not above q -/
def LeC (p q : Ci) : Prop := ltI (il q) (il p) = false
theorem cv_il (p : Ci) : cv p = (il p).map V.int := rfl
theorem paired_perm {α β : Type} {R : α → β → Prop} {xs ys : List α} (h : ys.Perm xs) : ∀ {zs : List β}, Paired R xs zs → ∃ ws, Paired R ys ws ∧ ws.Perm zs := by
  induction h with
  | nil =>
    intro zs r
    exact ⟨zs, r, .refl _⟩
  | cons x _ ih =>
    intro zs r
    cases r with
    | cons r t =>
      obtain ⟨ws, a, b⟩ := ih t
      exact ⟨_ :: ws, .cons r a, .cons _ b⟩
  | swap x y l =>
    intro zs r
    cases r with
    | cons r1 t =>
      cases t with
      | cons r2 t => exact ⟨_, .cons r2 (.cons r1 t), .swap _ _ _⟩
  | trans _ _ ih1 ih2 =>
    intro zs r
    obtain ⟨ws, a, b⟩ := ih2 r
    obtain ⟨us, c, d⟩ := ih1 a
    exact ⟨us, c, d.trans b⟩
theorem paired_pw {α β : Type} {R : α → β → Prop} {S : α → α → Prop} {S' : β → β → Prop} (h : ∀ x y p q, R x p → R y q → S x y → S' p q) : ∀ {xs : List α} {zs : List β}, Paired R xs zs → xs.Pairwise S → zs.Pairwise S'
  | _, _, .nil, _ => .nil
  | _, _, .cons r t, .cons a b => .cons (fun z hz => by
      obtain ⟨i, hi, e⟩ := List.mem_iff_getElem.mp hz
      obtain ⟨v, hv, rv⟩ := paired_at t (show _ = some z by rw [← e]; exact List.getElem?_eq_getElem hi)
      exact h _ _ _ _ r rv (a v (List.mem_of_getElem? hv))) (paired_pw h t b)
def WtAt (C : Addr) (H : Hp) (wv : List V) (wt : List (Fo × Nat)) : Prop := Paired (fun v (x : Fo × Nat) => ∃ t u, v = .ref t ∧ H t = some (.tup [u, .int (x.2 : Nat)]) ∧ FourAt C H u x.1 ∧ x.1.length = 4) wv wt
theorem WtAt.same {C : Addr} {H H' : Hp} {wv : List V} {wt : List (Fo × Nat)} (h : WtAt C H wv wt) (s : Same H H') : WtAt C H' wv wt := Paired.mapP h fun v x ⟨t, u, a, b, c, d⟩ => ⟨t, u, a, s _ _ b, c.same s, d⟩
theorem WtAt.mut {C : Addr} {H : Hp} {wv : List V} {wt : List (Fo × Nat)} {D : Addr} {o : HO} {xs : List V} (h : WtAt C H wv wt) (e : H D = some (.lst xs)) : WtAt C (upd H D o) wv wt :=
  Paired.mapP h fun v x ⟨t, u, a, b, c, d⟩ => ⟨t, u, a, by rw [upd_ne (ne_of b e (by intro z; cases z))]; exact b, c.mut e, d⟩
theorem paired_last {α β : Type} {R : α → β → Prop} : ∀ {xs : List α} {ys : List β} {y : β}, Paired R xs ys → ys.getLast? = some y → ∃ x, xs[xs.length - 1]? = some x ∧ R x y ∧ Paired R xs.dropLast ys.dropLast
  | _, _, _, .nil, h => by simp at h
  | _, _, _, .cons (a := a) (b := b) r .nil, h => by
    simp at h
    subst h
    exact ⟨a, rfl, r, .nil⟩
  | _, _, _, .cons r (.cons r2 t), h => by
    obtain ⟨x, h1, h2, h3⟩ := paired_last (.cons r2 t) (by simpa using h)
    refine ⟨x, ?_, h2, .cons r h3⟩
    simpa using h1
theorem stepK_len {m : Int} {F : Fo} {last : Nat} : ∀ {ks : List Nat} {fd fd' : List Ci} {wt wt' : List (Fo × Nat)}, fd.length ≤ 50 → stepK m F last ks fd wt = some (fd', wt') → fd'.length ≤ 50
  | [], fd, fd', wt, wt', h, e => by
    unfold stepK at e
    cases e
    exact h
  | k :: ks, fd, fd', wt, wt', h, e => by
    unfold stepK at e
    split at e
    · exact stepK_len h e
    · split at e
      · exact stepK_len h e
      · split at e
        · rename_i hc
          rw [Bool.and_eq_true, decide_eq_true_eq] at hc
          exact stepK_len (by rw [List.length_append]; exact hc.1) e
        · cases e
section
variable {P : Program} {w : World} {K : PySem.W.Frag} {mg : Str → Option Value} {base : Heap}
def Bd9 (fd : List Ci) (wt : List (Fo × Nat)) : Prop := fd.length ≤ 50 ∧ wt.length ≤ fd.length + 1
/-! ### Search.run -/
def sp_sRun (C CF : Addr) : Sp := fun vs H Q _ => ∃ (H0 : Hp) (p dx fl wl : Addr) (m : Int) (acc wv : List V) (fd : List Ci) (wt : List (Fo × Nat)) (n : Nat) (res : List Ci), vs = [.ref p] ∧ Same H0 H ∧ H0 p = none ∧ H0 fl = none ∧ H0 wl = none ∧ wl ≠ fl ∧
  H p = some (.ins C dx (sf1 m fl wl)) ∧ H fl = some (.lst acc) ∧ CisAt H acc fd ∧ H wl = some (.lst wv) ∧ WtAt CF H wv wt ∧ Bd9 fd wt ∧ srun m n fd wt = some res ∧
  ∀ l H' ys told, Same H0 H' → H' l = some (.lst ys) → CisAt H' ys told → told.Perm res → told.Pairwise LeC → Q (.ref l) H'
abbrev N_sRun : List Str := ["self", "four", "last", "number"]
theorem sc_sRun : FnScope N_sRun ["self"] (defScope s_sRun) := ⟨rfl, rfl, rfl, by decide +kernel, rfl, by decide +kernel, by decide +kernel⟩
theorem drop_num {i : Nat} (hi : i < 4) : ([1, 2, 3, 4] : List Nat).drop i = (i + 1) :: ([1, 2, 3, 4] : List Nat).drop (i + 1) := by
  match i, hi with
  | 0, _ => rfl
  | 1, _ => rfl
  | 2, _ => rfl
  | 3, _ => rfl
theorem num_at {i : Nat} {x : V} (hi : i < 4) (h : ([.int 1, .int 2, .int 3, .int 4] : List V)[i]? = some x) : x = .int ((i + 1 : Nat) : Int) := by
  match i, hi with
  | 0, _ => cases h; rfl
  | 1, _ => cases h; rfl
  | 2, _ => cases h; rfl
  | 3, _ => cases h; rfl
theorem num_of {i : Nat} (hi : i < 4) : Num (i + 1) := by
  unfold Num
  omega
theorem ok_sRun (T : Txt K mg) : FnOk P w K mg base CX0 8 T.f_sRun T.d_sRun ["self"] (sp_sRun T.cS T.cF) := by
  refine T.F_sRun.ok sc_sRun (fun vs H Q E h => ?_) (fun cdv A outer s H vs Q E hr h => ?_)
  · obtain ⟨H0, p, dx, fl, wl, m, acc, wv, fd, wt, n, res, rfl, _⟩ := h
    rfl
  · obtain ⟨H0, p, dx, fl, wl, m, acc, wv, fd, wt, n, res, rfl, s0, p0, f0, w0, nwf, e1, e2, c2, e3, c3, hfd, hrun, k⟩ := h
    refine ⟨_, pss_cons (ps_while PassesOwn.never (pt_truth (pe_fld (pv 0) rfl) (by intro _; rfl)) <|
        pss_cons (ps_asg (pe_bm0 PySem.F.plainAttrs_list PySem.F.slot_list_pop PySem.F.type_list_pop mt_pop (pe_fld (pv 0) rfl)) (pg_tup rfl (pgs_cons (pg_name (i := 1) sc_sRun.nd rfl (.inl rfl)) (pgs_cons (pg_name (i := 2) sc_sRun.nd rfl (.inl rfl)) pgs_nil)))) <|
        pss_one <| ps_for PassesOwn.never rfl (pi_tup (pe_glob (v := .ref T.nN) (by rfl) T.g_nN rfl)) (pg_name (i := 3) sc_sRun.nd rfl (.inl rfl)) <| pss_one <|
          ps_if (PW.pt (pw_and (pt_cmpR op_ne (pv 3) (pv 2) (nomark _)) (pw_and1 (pt_val (pe_meth (pv 0) T.clS T.m_sNote (ok_sNote T) (hr.mono (by decide)) T.y_sNote .nil pass0 (pa_cons (pe_meth (pv 1) T.clF T.m_fOther (ok_fOther T) (hr.mono (by decide)) T.y_fOther .nil pass0 (pa_cons (pv 3) pa_nil)) pa_nil))))))
            (pss_one (ps_expr (pe_bm PySem.F.plainAttrs_list PySem.F.slot_list_append PySem.F.type_list_append mt_append (pe_fld (pv 0) rfl) (pa_cons (pe_tup (pa_cons (pe_meth (pv 1) T.clF T.m_fExch (ok_fExch T) hr T.y_fExch .nil pass0 (pa_cons (pv 3) pa_nil)) (pa_cons (pv 3) pa_nil))) pa_nil)))) pss_nil) <|
      pss_one (ps_ret (pe_callB cr_sortQ (by rfl) T.b_sorted (by decide +kernel) (pa_cons (pe_fld (pv 0) rfl) pa_nil))), ?_⟩
    refine ⟨fun n σ H' => ∃ (x y z : Option V) (acc wv : List V) (fd : List Ci) (wt : List (Fo × Nat)), σ = [some (.ref p), x, y, z] ∧ Same H0 H' ∧ H' p = some (.ins T.cS dx (sf1 m fl wl)) ∧ H' fl = some (.lst acc) ∧ CisAt H' acc fd ∧ H' wl = some (.lst wv) ∧ WtAt T.cF H' wv wt ∧ Bd9 fd wt ∧ srun m n fd wt = some res,
      ⟨n, none, none, none, acc, wv, fd, wt, rfl, s0, e1, e2, c2, e3, c3, hfd, hrun⟩, ?_⟩
    clear e1 e2 c2 e3 c3 hfd hrun s0
    rintro n σ H1 ⟨x, y, z, acc, wv, fd, wt, rfl, s0, e1, e2, c2, e3, c3, hfd, hrun⟩
    refine ⟨_, rfl, p, _, dx, _, _, rfl, e1, T.clS, T.na_waiting, sf1_w _ _ _, !wv.isEmpty, .inl ⟨wv, SqL.of e3, rfl⟩, ?_⟩
    cases n with
    | zero => cases hrun
    | succ n =>
      cases hl : wt.getLast? with
      | none =>
        have ew : wt = [] := List.getLast?_eq_none_iff.mp hl
        subst ew
        have evw : wv = [] := by
          cases c3
          rfl
        subst evw
        refine iteF ?_
        unfold srun at hrun
        rw [hl] at hrun
        cases hrun
        refine ⟨_, rfl, p, _, dx, _, _, rfl, e1, T.clS, T.na_found, sf1_f _ _ _, fl, acc, rfl, SqL.of e2, fun x hx => ?_, fun ys l hp hpw hln => ?_⟩
        · obtain ⟨i, hi, e⟩ := List.mem_iff_getElem.mp hx
          obtain ⟨q, hq, c, rfl, hc⟩ := paired_at' c2 (show _ = some x by rw [← e]; exact List.getElem?_eq_getElem hi)
          exact ⟨q.b, [q.c, q.x, q.y], c, rfl, SqT.of hc⟩
        · obtain ⟨told, t1, t2⟩ := paired_perm hp c2
          have s2 : Same H1 (upd H1 l (.lst ys)) := same_upd hln
          refine k l _ ys told (s0.trans s2) upd_same (CisAt.same t1 s2) t2 ?_
          refine paired_pw (fun x y p q ⟨a, ea, ha⟩ ⟨b, eb, hb⟩ hxy => ?_) t1 hpw
          exact hxy (il p) (il q) ⟨a, ea, SqT.of ha⟩ ⟨b, eb, SqT.of hb⟩
      | some Fl =>
        obtain ⟨F, last⟩ := Fl
        obtain ⟨xl, hxl, ⟨t, u, rfl, ht, hu, hF⟩, cd⟩ := paired_last c3 hl
        have hne : (!wv.isEmpty) = true := by
          cases wv with
          | nil => simp at hxl
          | cons _ _ => rfl
        rw [hne]
        refine iteT ?_
        unfold srun at hrun
        rw [hl] at hrun
        dsimp only at hrun
        cases hst : stepK m F last [1, 2, 3, 4] fd wt.dropLast with
        | none =>
          rw [hst] at hrun
          cases hrun
        | some r =>
          obtain ⟨fd', wt'⟩ := r
          rw [hst] at hrun
          dsimp only at hrun
          refine ⟨fun σ' H' => ∃ (x y z : Option V) (acc wv : List V) (fd : List Ci) (wt : List (Fo × Nat)), σ' = [some (.ref p), x, y, z] ∧ Same H0 H' ∧ H' p = some (.ins T.cS dx (sf1 m fl wl)) ∧ H' fl = some (.lst acc) ∧ CisAt H' acc fd ∧ H' wl = some (.lst wv) ∧ WtAt T.cF H' wv wt ∧ Bd9 fd wt ∧ srun m n fd wt = some res,
            fun σ' H' q => ⟨n, Nat.lt_succ_self _, q⟩, ?_⟩
          have npw : p ≠ wl := ne_of e1 e3 (by intro z; cases z)
          have npf : p ≠ fl := ne_of e1 e2 (by intro z; cases z)
          -- four, last = self.waiting.pop()
          refine ⟨_, rfl, p, _, dx, _, _, rfl, e1, T.clS, T.na_waiting, sf1_w _ _ _, .inl ⟨rfl, _, SqL.of e3⟩, wl, wv, _, rfl, rfl, e3, hxl, ?_⟩
          have s2 : Same H0 (upd H1 wl (.lst wv.dropLast)) := Same.mut s0 w0
          have g1 : (upd H1 wl (.lst wv.dropLast)) p = some (.ins T.cS dx (sf1 m fl wl)) := by
            rw [upd_ne npw]
            exact e1
          have g2 : (upd H1 wl (.lst wv.dropLast)) fl = some (.lst acc) := by
            rw [upd_ne nwf.symm]
            exact e2
          have g3 : (upd H1 wl (.lst wv.dropLast)) wl = some (.lst wv.dropLast) := upd_same
          have gc : CisAt (upd H1 wl (.lst wv.dropLast)) acc fd := CisAt.mut c2 e3
          have gw : WtAt T.cF (upd H1 wl (.lst wv.dropLast)) wv.dropLast wt.dropLast := WtAt.mut cd e3
          have gu : FourAt T.cF (upd H1 wl (.lst wv.dropLast)) u F := hu.mut e3
          have gt : (upd H1 wl (.lst wv.dropLast)) t = some (.tup [u, .int (last : Nat)]) := by
            rw [upd_ne (ne_of ht e3 (by intro z; cases z))]
            exact ht
          generalize upd H1 wl (.lst wv.dropLast) = H2 at s2 g1 g2 g3 gc gw gu gt
          refine ⟨t, _, rfl, SqT.of gt, rfl, _, _, rfl, _, _, rfl, rfl, ?_⟩
          -- for number in NUMBERS
          refine ⟨T.nN, rfl, ⟨_, T.sq_nN _⟩, for_it (walk_tup (K := K) (a := T.nN) (xs := [.int 1, .int 2, .int 3, .int 4]))
            (fun i σ H' => ∃ (z : Option V) (acc wv : List V) (fd : List Ci) (wt : List (Fo × Nat)), σ = [some (.ref p), some u, some (.int (last : Nat)), z] ∧ Same H0 H' ∧ H' p = some (.ins T.cS dx (sf1 m fl wl)) ∧ H' fl = some (.lst acc) ∧ CisAt H' acc fd ∧ H' wl = some (.lst wv) ∧ WtAt T.cF H' wv wt ∧ FourAt T.cF H' u F ∧ Bd9 fd wt ∧ stepK m F last (([1, 2, 3, 4] : List Nat).drop i) fd wt = some (fd', wt'))
            ⟨z, acc, _, fd, _, rfl, s2, g1, g2, gc, g3, gw, gu, ⟨hfd.1, by rw [List.length_dropLast]; have := hfd.2; omega⟩, hst⟩ (fun i σ H' _ g => T.sq_nN _) ?_ ?_⟩
          · clear e1 e2 c2 e3 c3 hfd hrun s0 hst g1 g2 g3 gc gw gu gt hl hxl cd hne ht hu s2
            rintro i x σ H3 H4 hi ⟨z, acc, wv, fd, wt, rfl, s3, e1, e2, c2, e3, c3, hu, hfd, hst⟩ ⟨rfl, hx⟩
            have hi4 : i < 4 := hi
            have ex := num_at hi4 hx
            subst ex
            rw [drop_num hi4] at hst
            unfold stepK at hst
            have hlen := Paired.length c2
            refine ⟨_, rfl, _, rfl, rfl, _, rfl, ?_⟩
            have ed : (!decide (V.int ((i + 1 : Nat) : Int) = V.int (last : Nat))) = !decide (i + 1 = last) := by
              rw [dec_int']
              by_cases h : i + 1 = last
              · rw [decide_eq_true h, decide_eq_true (by omega)]
              · rw [decide_eq_false h, decide_eq_false (by omega)]
            rw [ed]
            by_cases hk : i + 1 = last
            · rw [decide_eq_true hk]
              rw [if_pos hk] at hst
              refine iteF (iteF ?_)
              exact ⟨_, acc, wv, fd, wt, rfl, s3, e1, e2, c2, e3, c3, hu, hfd, hst⟩
            · rw [decide_eq_false hk]
              rw [if_neg hk] at hst
              refine iteT ?_
              have hu0 := hu
              obtain ⟨a, dxa, ta, us, rfl, r1, r2, r3⟩ := hu
              refine ⟨_, rfl, p, dx, _, rfl, e1, sf1_n _ _ _ (by decide +kernel) (by decide +kernel) (by decide +kernel) (by decide +kernel), _, rfl, a, dxa, _, rfl, r1, rfl, _, rfl, _, F, i + 1, rfl, hu0, hF, num_of hi4, fun v H5 s5 hv => ?_⟩
              refine ⟨p, v, oth F (i + 1), dx, _, m, fl, acc, rfl, s5 _ _ e1, sf1_m _ _ _, sf1_l _ _ _, sf1_f _ _ _, s5 _ _ e2, by have := hfd.1; omega, hv, fun hm => ?_, fun hm => ?_⟩
              · rw [if_pos hm] at hst
                refine ⟨_, rfl, iteF ?_⟩
                exact ⟨_, acc, wv, fd, wt, rfl, s3.trans s5, s5 _ _ e1, s5 _ _ e2, CisAt.same c2 s5, s5 _ _ e3, c3.same s5, hu0.same s5, hfd, hst⟩
              · rw [if_neg hm] at hst
                by_cases hc : (decide (fd.length < 50) && okF (exch F (i + 1))) = true
                · rw [if_pos hc] at hst
                  rw [Bool.and_eq_true, decide_eq_true_eq] at hc
                  refine ⟨_, rfl, iteT ?_⟩
                  have e2' := s5 _ _ e2
                  have s6 : Same H0 (upd H5 fl (.lst (acc ++ [v]))) := Same.mut (s3.trans s5) f0
                  have g1 : (upd H5 fl (.lst (acc ++ [v]))) p = some (.ins T.cS dx (sf1 m fl wl)) := by
                    rw [upd_ne npf]
                    exact s5 _ _ e1
                  have g2 : (upd H5 fl (.lst (acc ++ [v]))) fl = some (.lst (acc ++ [v])) := upd_same
                  have g3 : (upd H5 fl (.lst (acc ++ [v]))) wl = some (.lst wv) := by
                    rw [upd_ne nwf]
                    exact s5 _ _ e3
                  have gc : CisAt (upd H5 fl (.lst (acc ++ [v]))) (acc ++ [v]) (fd ++ [oth F (i + 1)]) := CisAt.mut (paired_snoc hv (CisAt.same c2 s5)) e2'
                  have gw : WtAt T.cF (upd H5 fl (.lst (acc ++ [v]))) wv wt := WtAt.mut (c3.same s5) e2'
                  have gu : FourAt T.cF (upd H5 fl (.lst (acc ++ [v]))) (.ref a) F := (hu0.same s5).mut e2'
                  generalize upd H5 fl (.lst (acc ++ [v])) = H6 at s6 g1 g2 g3 gc gw gu
                  have gu0 := gu
                  obtain ⟨a', dxa', ta', us', ea, q1, q2, q3⟩ := gu
                  cases ea
                  refine ⟨_, rfl, p, _, dx, _, _, rfl, g1, T.clS, T.na_waiting, sf1_w _ _ _, .inl ⟨rfl, _, SqL.of g3⟩, _, rfl, a, dxa', _, rfl, q1, rfl, _, rfl, _, F, i + 1, rfl, gu0, hF, num_of hi4, hc.2, fun u2 H7 s7 hu2 => ?_⟩
                  refine ⟨_, rfl, by show 2 ≤ sizeLine; decide, fun tt htt => ?_⟩
                  have s8 : Same H6 (upd H7 tt (.tup [u2, .int ((i + 1 : Nat) : Int)])) := Same.new s7 htt
                  have hl2 : wv.length = wt.length := Paired.length c3
                  have e9 := s8 _ _ g3
                  refine ⟨wl, wv, _, rfl, rfl, e9, ?_, ?_⟩
                  · exact small1000 (by have h1 := hfd.1; have h2 := hfd.2; omega)
                  · have ett : (upd H7 tt (.tup [u2, .int ((i + 1 : Nat) : Int)])) tt = some (.tup [u2, .int ((i + 1 : Nat) : Int)]) := upd_same
                    have hu2' : FourAt T.cF (upd H7 tt (.tup [u2, .int ((i + 1 : Nat) : Int)])) u2 (exch F (i + 1)) := hu2.same (same_upd htt)
                    generalize hH8 : upd H7 tt (.tup [u2, .int ((i + 1 : Nat) : Int)]) = H8 at s8 e9 ett hu2'
                    refine ⟨_, acc ++ [v], wv ++ [.ref tt], _, _, rfl, Same.mut (s6.trans s8) w0, ?_, ?_, CisAt.mut (CisAt.same gc s8) e9, upd_same, WtAt.mut (paired_snoc ⟨tt, u2, rfl, ett, hu2', exch_len hF⟩ (gw.same s8)) e9, (gu0.same s8).mut e9, ?_, hst⟩
                    · rw [upd_ne npw]
                      exact s8 _ _ g1
                    · rw [upd_ne nwf.symm]
                      exact s8 _ _ g2
                    · refine ⟨by rw [List.length_append]; exact hc.1, ?_⟩
                      rw [List.length_append, List.length_append]
                      exact Nat.succ_le_succ hfd.2
                · rw [if_neg hc] at hst
                  cases hst
          · rintro σ H3 ⟨z, acc, wv, fd, wt, rfl, s3, e1, e2, c2, e3, c3, hu, hfd, hst⟩
            have eq : stepK m F last ([1, 2, 3, 4].drop 4) fd wt = some (fd, wt) := rfl
            have hst' : stepK m F last ([1, 2, 3, 4].drop 4) fd wt = some (fd', wt') := hst
            rw [eq] at hst'
            cases hst'
            exact ⟨_, _, _, acc, wv, fd', wt', rfl, s3, e1, e2, c2, e3, c3, hfd, hrun⟩
end
end K51
/-! K51WA: circles_up_to. -/
namespace K51
open PySem L2
section
variable {P : Program} {w : World} {K : PySem.W.Frag} {mg : Str → Option Value} {base : Heap}
def sp_up (CF : Addr) : Sp := fun vs H Q _ => ∃ v F m n ws R N res, vs = [v, .int m, .int 2000] ∧ FourAt CF H v F ∧ F.length = 4 ∧ n ≤ 1000 ∧ wd n F = some (ws, R) ∧ strip R = false ∧ srun m N (sstart m R) [(R, 0)] = some res ∧
  ∀ l H' ys told, Same H H' → H' l = some (.lst ys) → CisAt H' ys told → told.Perm res → told.Pairwise LeC → Q (.ref l) H'
theorem sc_up : FnScope ["four", "most", "limit"] ["four", "most", "limit"] (defScope s_circlesUpTo) := ⟨rfl, rfl, rfl, by decide +kernel, rfl, by decide +kernel, by decide +kernel⟩
theorem ok_up (T : Txt K mg) : FnOk P w K mg base CX0 12 T.f_up T.d_up ["four", "most", "limit"] (sp_up T.cF) := by
  refine T.F_up.ok sc_up (fun vs H Q E h => ?_) (fun cdv A outer s H vs Q E hr h => ?_)
  · obtain ⟨v, F, m, n, ws, R, N, res, rfl, _⟩ := h
    rfl
  · obtain ⟨v, F, m, n, ws, R, N, res, rfl, hv, hF, hn, hw, hs, hrun, k⟩ := h
    refine ⟨_, PSs.nox (pss_one <| ps_ret <| pe_meth0 (pe_make T.m_sInit (ok_sInit T) (hr.mono (by decide)) (by rfl) T.gcS T.y_sInit .nil pass0 (pa_cons (pe_call (ok_boundedRoot T) hr (by rfl) T.g_boundedRoot T.F_boundedRoot.kp T.y_boundedRoot .nil pass0 (pa_cons (pv 0) pa_nil)) (pa_cons (pv 1) (pa_cons (pv 2) pa_nil)))) T.clS T.m_sRun (ok_sRun T) (hr.mono (by decide)) T.y_sRun .nil pass0), ?_⟩
    have hR : R.length = 4 := by
      rw [← (wd_at hw).1]
      exact at4_len hF ws
    refine ⟨_, rfl, v, F, n, ws, R, rfl, hv, hF, hn, hw, hs, fun u H1 s1 hu => ?_⟩
    refine ⟨_, rfl, _, rfl, ?_⟩
    intro x dx hx hdx hne
    have s2 : Same H1 (upd (upd H1 dx (.own x)) x (.ins T.cS dx [])) := fun b o e => by
      rw [upd_ne (ne_of_none e hx), upd_ne (ne_of_none e hdx)]
      exact e
    refine ⟨x, dx, u, m, R, rfl, upd_same, hu.same s2, hR, fun fl wl t acc H3 k3 f0 w0 e1 e2 c2 e3 et nwf => ⟨rfl, ?_⟩⟩
    have s3 : Same H1 H3 := Same.made hx hdx k3
    have hu3 : FourAt T.cF H3 u R := hu.same s3
    refine ⟨x, dx, _, rfl, e1, sf1_n _ _ _ (by decide +kernel) (by decide +kernel) (by decide +kernel) (by decide +kernel), H1, x, dx, fl, wl, m, acc, _, sstart m R, [(R, 0)], N, res, rfl, s3, hx, s2.free f0, s2.free w0, nwf, e1, e2, c2, e3, .cons ⟨t, u, rfl, et, hu3, hR⟩ .nil, ⟨?_, ?_⟩, hrun, fun l H4 ys told s4 el ct hp hpw => ?_⟩
    · refine Nat.le_trans (List.length_filter_le _ _) ?_
      omega
    · exact Nat.succ_le_succ (Nat.zero_le _)
    · exact k l H4 ys told (s1.trans s4) el ct hp hpw
end
end K51
/-! K51WB: the law's own defs: numbers. -/
namespace K51
open PySem L2
def iv (ns : List Int) : List V := ns.map V.int
theorem iv_snoc (ns : List Int) (k : Int) : iv (ns ++ [k]) = iv ns ++ [.int k] := by
  unfold iv
  rw [List.map_append]
  rfl
theorem mulR {i j : Int} (h : -(2 ^ 64) < j ∧ j < 2 ^ 64) : CMul i j := .inr h
theorem mulL {i j : Int} (h : -(2 ^ 64) < i ∧ i < 2 ^ 64) : CMul i j := .inl h
section
variable {P : Program} {w : World} {K : PySem.W.Frag} {mg : Str → Option Value} {base : Heap}
/-! ### _law_row -/
def sp_lRow : Sp := fun vs H Q _ => ∃ c n, vs = [.int c, .int n] ∧ 0 ≤ n ∧ n ≤ 1000 ∧ ∀ l H' ns, Same H H' → H l = none → H' l = some (.lst (iv ns)) → ns.length = n.toNat → Q (.ref l) H'
abbrev N_lRow : List Str := ["_law_cell", "_law_many", "_law_row_here", "_law_rest", "_law_mixed", "_law_k"]
theorem sc_lRow : FnScope N_lRow ["_law_cell", "_law_many"] (defScope s_lRow) := ⟨rfl, rfl, rfl, by decide +kernel, rfl, by decide +kernel, by decide +kernel⟩
theorem ok_lRow (T : Txt K mg) : FnOk P w K mg base CX0 1 T.f_lRow T.d_lRow ["_law_cell", "_law_many"] sp_lRow := by
  refine T.F_lRow.ok sc_lRow (fun vs H Q E h => ?_) (fun cdv A outer s H vs Q E hr h => ?_)
  · obtain ⟨c, n, rfl, _⟩ := h
    rfl
  · obtain ⟨c, n, rfl, h0, h1, k⟩ := h
    refine ⟨_, pss_cons (ps_set (i := 2) sc_lRow.nd rfl (.inl rfl) (pe_lst pa_nil)) <|
      pss_cons (ps_set (i := 3) sc_lRow.nd rfl (.inl rfl) (pe_callB call_abs (by rfl) T.b_abs (by decide +kernel) (pa_cons (pv 0) pa_nil))) <|
      pss_cons (ps_set (i := 4) sc_lRow.nd rfl (.inl rfl) (pe_op op_mod (pe_callTy call_int1 (by rfl) T.b_int (by decide +kernel) (pa_cons (pe_op op_add (pe_op op_mul (pv 3) pe_int) pe_int) pa_nil)) pe_int)) <|
      pss_cons (ps_for PassesOwn.never rfl (pi_range1 (by rfl) T.b_range (pa_cons (pv 1) pa_nil)) (pg_name (i := 5) sc_lRow.nd rfl (.inl rfl)) <|
        pss_cons (ps_set (i := 4) sc_lRow.nd rfl (.inl rfl) (pe_op op_mod (pe_callTy call_int1 (by rfl) T.b_int (by decide +kernel) (pa_cons (pe_op op_add (pe_op op_mul (pv 4) pe_int) (pe_op op_mul pe_int (pe_op op_add (pv 5) pe_int))) pa_nil)) pe_int)) <|
        pss_one <| ps_if (pt_cmpR op_ge (pe_callB call_abs (by rfl) T.b_abs (by decide +kernel) (pa_cons (pv 0) pa_nil)) (pe_op op_pow pe_int pe_int) (nomark _))
          (pss_cons (ps_expr (pe_bm PySem.F.plainAttrs_list PySem.F.slot_list_append PySem.F.type_list_append mt_append (pv 2) (pa_cons (pe_op op_mod (pe_callTy call_int1 (by rfl) T.b_int (by decide +kernel) (pa_cons (pv 3) pa_nil)) pe_int) pa_nil))) <|
            pss_one <| ps_set (i := 3) sc_lRow.nd rfl (.inl rfl) (pe_op op_fdiv (pv 3) pe_int))
          (pss_one <| ps_expr (pe_bm PySem.F.plainAttrs_list PySem.F.slot_list_append PySem.F.type_list_append mt_append (pv 2) (pa_cons (pe_op op_mod (pe_callTy call_int1 (by rfl) T.b_int (by decide +kernel) (pa_cons (pe_op op_fdiv (pv 4) pe_int) pa_nil)) pe_int) pa_nil)))) <|
      pss_one (ps_ret (pv 2)), ?_⟩
    refine ⟨Nat.zero_le _, fun o ho => ?_⟩
    have s1 : Same H (upd H o (.lst [])) := same_upd ho
    refine ⟨_, rfl, _, rfl, ?_⟩
    refine ⟨_, rfl, _, _, rfl, rfl, mulR (by decide), _, _, rfl, rfl, .inl ⟨_, rfl, _, _, rfl, rfl, (by show (0 : Int) < 2147483647; decide), ?_⟩⟩
    refine ⟨_, rfl, n, rfl, by omega, by omega, for_it (walk_range (lo := 0) (n := n.toNat)) (fun i σ H' => (∃ r x z, σ = [some (.int c), some (.int n), some (.ref o), some (.int r), some (.int x), z]) ∧ Same H H' ∧ ∃ ns, H' o = some (.lst (iv ns)) ∧ ns.length = i)
      ⟨⟨_, _, _, rfl⟩, s1, [], upd_same, rfl⟩ (fun _ _ _ _ _ => trivial) ?_ ?_⟩
    · rintro i x σ H2 H3 hi ⟨⟨r, x0, z, rfl⟩, s2, ns, e2, l2⟩ ⟨rfl, rfl⟩
      have hlen : (iv ns).length < sizeLine := small1000 (by unfold iv; rw [List.length_map]; omega)
      refine ⟨_, rfl, _, _, rfl, rfl, mulR (by decide), _, rfl, _, _, rfl, rfl, _, _, rfl, rfl, mulL (by decide), _, _, rfl, rfl, .inl ⟨_, rfl, _, _, rfl, rfl, (by show (0 : Int) < 2147483629; decide), ?_⟩⟩
      refine ⟨_, rfl, _, rfl, _, _, rfl, rfl, ⟨by decide, by decide, by decide⟩, _, _, rfl, rfl, _, rfl, ?_⟩
      have no : H o = none := ho
      refine ite2 (fun _ => ?_) (fun _ => ?_)
      · refine ⟨_, rfl, .inl ⟨rfl, _, SqL.of e2⟩, _, rfl, .inl ⟨_, rfl, _, _, rfl, rfl, (by show (0 : Int) < 1009; decide), o, _, _, rfl, rfl, e2, hlen, ?_⟩⟩
        refine ⟨_, rfl, _, _, rfl, rfl, ⟨by decide, by decide⟩, ?_⟩
        exact ⟨⟨_, _, _, rfl⟩, Same.mut s2 no, ns ++ [_], by rw [upd_same, iv_snoc], by rw [List.length_append, l2]; rfl⟩
      · refine ⟨_, rfl, .inl ⟨rfl, _, SqL.of e2⟩, _, rfl, _, _, rfl, rfl, ⟨by decide, by decide⟩, .inl ⟨_, rfl, _, _, rfl, rfl, (by show (0 : Int) < 1009; decide), o, _, _, rfl, rfl, e2, hlen, ?_⟩⟩
        exact ⟨⟨_, _, _, rfl⟩, Same.mut s2 no, ns ++ [_], by rw [upd_same, iv_snoc], by rw [List.length_append, l2]; rfl⟩
    · rintro σ H2 ⟨⟨r, x0, z, rfl⟩, s2, ns, e2, l2⟩
      exact ⟨_, rfl, k o H2 ns s2 ho e2 l2⟩
/-! ### _law_numbers -/
def sp_lNumbers (K : PySem.W.Frag) : Sp := fun vs H Q _ => ∃ a ns, vs = [.ref a, .int 30] ∧ SqL K H a (iv ns) ∧ ns.length ≤ 63 ∧ ∀ l H' ms, Same H H' → H' l = some (.lst (iv ms)) → ms.length = 30 → Q (.ref l) H'
abbrev N_lNumbers : List Str := ["_law_script", "_law_many", "_law_cells", "_law_each", "_law_numbers_here", "_law_cell", "_law_number"]
theorem sc_lNumbers : FnScope N_lNumbers ["_law_script", "_law_many"] (defScope s_lNumbers) := ⟨rfl, rfl, rfl, by decide +kernel, rfl, by decide +kernel, by decide +kernel⟩
theorem cut_take (ns : List Int) (k : Nat) : cutV (iv ns) none (some (k : Int)) = iv (ns.take k) := by
  unfold cutV iv
  rw [HT.sIx_nat, HT.sIx_none, List.drop_zero, Nat.sub_zero, List.map_take, List.length_map]
  by_cases h : k ≤ ns.length
  · rw [Nat.min_eq_left h]
  · rw [Nat.min_eq_right (by omega), List.take_of_length_le (by rw [List.length_map]; exact Nat.le_refl _), List.take_of_length_le (by rw [List.length_map]; omega)]
def eachOf (L : Nat) : Int := 1 + 30 / (if (L : Int) > 1 then (L : Int) else 1)
theorem eachOf_le (L : Nat) : 0 ≤ eachOf L ∧ eachOf L ≤ 31 := by
  unfold eachOf
  split
  · have h1 : (0 : Int) ≤ 30 / (L : Int) := Int.ediv_nonneg (by omega) (by omega)
    have h2 : (30 : Int) / (L : Int) ≤ 30 := Int.ediv_le_self _ (by omega)
    omega
  · omega
theorem ok_lNumbers (T : Txt K mg) : FnOk P w K mg base CX0 2 T.f_lNumbers T.d_lNumbers ["_law_script", "_law_many"] (sp_lNumbers K) := by
  refine T.F_lNumbers.ok sc_lNumbers (fun vs H Q E h => ?_) (fun cdv A outer s H vs Q E hr h => ?_)
  · obtain ⟨a, ns, rfl, _⟩ := h
    rfl
  · obtain ⟨a, ns, rfl, hS, hlen, k⟩ := h
    refine ⟨_, pss_cons (ps_set (i := 2) sc_lNumbers.nd rfl (.inl rfl) (pe_slice sl_list (pv 0) po_none (po_some pe_int))) <|
      pss_cons (ps_set (i := 3) sc_lNumbers.nd rfl (.inl rfl) (pe_op op_add pe_int (pe_op op_fdiv (pv 1) (pe_callB (call_max2 rfl) (by rfl) T.b_max (by decide +kernel) (pa_cons pe_int (pa_cons (pe_callB call_len_seq (by rfl) T.b_len PySem.boot_len (pa_cons (pv 2) pa_nil)) pa_nil)))))) <|
      pss_cons (ps_set (i := 4) sc_lNumbers.nd rfl (.inl rfl) (pe_lst pa_nil)) <|
      pss_cons (ps_for PassesOwn.never rfl (pi_list (pv 2)) (pg_name (i := 5) sc_lNumbers.nd rfl (.inl rfl)) <| pss_one <|
        ps_for PassesOwn.never rfl (pi_list (pe_call (ok_lRow T) hr (by rfl) T.g_lRow T.F_lRow.kp T.y_lRow .nil pass0 (pa_cons (pv 5) (pa_cons (pv 3) pa_nil)))) (pg_name (i := 6) sc_lNumbers.nd rfl (.inl rfl)) <| pss_one <|
          ps_expr (pe_bm PySem.F.plainAttrs_list PySem.F.slot_list_append PySem.F.type_list_append mt_append (pv 4) (pa_cons (pv 6) pa_nil))) <|
      pss_cons (ps_while PassesOwn.never (pt_cmpR op_lt (pe_callB call_len_seq (by rfl) T.b_len PySem.boot_len (pa_cons (pv 4) pa_nil)) (pv 1) (nomark _)) <| pss_one <|
        ps_expr (pe_bm PySem.F.plainAttrs_list PySem.F.slot_list_append PySem.F.type_list_append mt_append (pv 4) (pa_cons pe_int pa_nil))) <|
      pss_one (ps_ret (pe_slice sl_list (pv 4) po_none (po_some (pv 1)))), ?_⟩
    refine ⟨_, rfl, _, rfl, a, _, rfl, hS, fun cl hcl => ?_⟩
    have ecut : cutV (iv ns) none (some 63) = iv (ns.take 63) := cut_take ns 63
    rw [ecut]
    generalize hcs : ns.take 63 = cs
    have hcs63 : cs.length ≤ 63 := by
      rw [← hcs, List.length_take]
      omega
    have s1 : Same H (upd H cl (.lst (iv cs))) := same_upd hcl
    have ec1 : (upd H cl (.lst (iv cs))) cl = some (.lst (iv cs)) := upd_same
    generalize upd H cl (.lst (iv cs)) = H1 at s1 ec1
    have elen : (iv cs).length = cs.length := by unfold iv; rw [List.length_map]
    refine ⟨_, rfl, _, rfl, cl, _, rfl, .inl (SqL.of ec1), _, _, rfl, ?_⟩
    rw [elen]
    refine ⟨_, _, rfl, rfl, ⟨?_, ?_⟩, _, _, rfl, rfl, ?_⟩
    · split <;> omega
    · split <;> omega
    · have hea := eachOf_le cs.length
      refine ⟨Nat.zero_le _, fun o ho => ?_⟩
      have s2 : Same H1 (upd H1 o (.lst [])) := same_upd ho
      refine ⟨_, rfl, cl, rfl, ⟨_, SqL.of (s2 _ _ ec1)⟩, for_it (walk_list (K := K) (a := cl) (xs := iv cs)) (fun i σ H' => (∃ x y, σ = [some (.ref a), some (.int 30), some (.ref cl), some (.int (eachOf cs.length)), some (.ref o), x, y]) ∧ Same H1 H' ∧ ∃ ms, H' o = some (.lst (iv ms)) ∧ ms.length ≤ i * 31)
        ⟨⟨_, _, rfl⟩, s2, [], upd_same, Nat.zero_le _⟩ (fun i σ H' _ g => SqL.of (g.2.1 _ _ ec1)) ?_ ?_⟩
      · rintro i x σ H2 H3 hi ⟨⟨x0, y0, rfl⟩, s3, ms, e3, l3⟩ ⟨rfl, hx⟩
        obtain ⟨c, rfl⟩ : ∃ c, x = V.int c := by
          obtain ⟨c, _, e⟩ := List.mem_map.mp (List.mem_of_getElem? hx)
          exact ⟨c, e.symm⟩
        refine ⟨_, rfl, _, rfl, c, eachOf cs.length, rfl, hea.1, by omega, fun rl H4 rs s4 nrl erl lrl => ?_⟩
        have no : H1 o = none := ho
        refine ⟨rl, rfl, ⟨_, SqL.of erl⟩, for_it (walk_list (K := K) (a := rl) (xs := iv rs)) (fun j σ H' => (∃ y, σ = [some (.ref a), some (.int 30), some (.ref cl), some (.int (eachOf cs.length)), some (.ref o), some (.int c), y]) ∧ Same H1 H' ∧ H' rl = some (.lst (iv rs)) ∧ ∃ ms, H' o = some (.lst (iv ms)) ∧ ms.length ≤ i * 31 + j)
          ⟨⟨_, rfl⟩, s3.trans s4, erl, ms, s4 _ _ e3, by omega⟩ (fun i σ H' _ g => SqL.of g.2.2.1) ?_ ?_⟩
        · rintro j x σ H5 H6 hj ⟨⟨y0, rfl⟩, s5, er5, ms, e5, l5⟩ ⟨rfl, hx⟩
          obtain ⟨c2, rfl⟩ : ∃ c, x = V.int c := by
            obtain ⟨c, _, e⟩ := List.mem_map.mp (List.mem_of_getElem? hx)
            exact ⟨c, e.symm⟩
          have hi63 : i < 63 := by omega
          have hj31 : j < 31 := by
            have : (iv rs).length = rs.length := by unfold iv; rw [List.length_map]
            omega
          have nor : rl ≠ o := fun e => by
            rw [e, e3] at nrl
            cases nrl
          refine ⟨_, rfl, .inl ⟨rfl, _, SqL.of e5⟩, _, rfl, o, _, _, rfl, rfl, e5, Nat.lt_of_le_of_lt (m := 3000) (by unfold iv; rw [List.length_map]; omega) (by decide), ?_⟩
          exact ⟨⟨_, rfl⟩, Same.mut s5 no, by rw [upd_ne nor]; exact er5, ms ++ [c2], by rw [upd_same, iv_snoc], by rw [List.length_append]; exact Nat.succ_le_succ l5⟩
        · rintro σ H5 ⟨⟨y0, rfl⟩, s5, er5, ms, e5, l5⟩
          refine ⟨⟨_, _, rfl⟩, s5, ms, e5, ?_⟩
          have : (iv rs).length = rs.length := by unfold iv; rw [List.length_map]
          omega
      · rintro σ H2 ⟨⟨x0, y0, rfl⟩, s3, ms, e3, l3⟩
        have no : H1 o = none := ho
        refine ⟨fun m σ H' => (∃ x y, σ = [some (.ref a), some (.int 30), some (.ref cl), some (.int (eachOf cs.length)), some (.ref o), x, y]) ∧ Same H1 H' ∧ ∃ ms, H' o = some (.lst (iv ms)) ∧ ms.length ≤ 3000 ∧ m = 30 - ms.length, ⟨_, ⟨_, _, rfl⟩, s3, ms, e3, by omega, rfl⟩, ?_⟩
        rintro m σ H3 ⟨⟨x1, y1, rfl⟩, s4, ms, e4, l4, rfl⟩
        have elm : (iv ms).length = ms.length := by unfold iv; rw [List.length_map]
        refine ⟨_, rfl, o, _, rfl, .inl (SqL.of e4), _, rfl, _, _, rfl, rfl, _, rfl, ?_⟩
        rw [elm]
        refine ite2 (fun h => ?_) (fun h => ?_)
        · have h' : ((ms.length : Nat) : Int) < 30 := of_decide_eq_true h
          refine ⟨fun σ' H' => (∃ x y, σ' = [some (.ref a), some (.int 30), some (.ref cl), some (.int (eachOf cs.length)), some (.ref o), x, y]) ∧ Same H1 H' ∧ ∃ ms', H' o = some (.lst (iv ms')) ∧ ms'.length = ms.length + 1, fun σ' H' ⟨q1, q2, ms', q3, q4⟩ => ⟨30 - ms'.length, by omega, q1, q2, ms', q3, by omega, rfl⟩, ?_⟩
          refine ⟨_, rfl, .inl ⟨rfl, _, SqL.of e4⟩, o, _, _, rfl, rfl, e4, Nat.lt_of_le_of_lt (m := 3000) (by omega) (by decide), ?_⟩
          exact ⟨⟨_, _, rfl⟩, Same.mut s4 no, ms ++ [0], by rw [upd_same, iv_snoc], by rw [List.length_append]; rfl⟩
        · have h' : ¬ ((ms.length : Nat) : Int) < 30 := fun q => h (decide_eq_true q)
          refine ⟨_, rfl, _, rfl, _, rfl, o, _, rfl, SqL.of e4, fun l hl => ?_⟩
          have ec : cutV (iv ms) none (some 30) = iv (ms.take 30) := cut_take ms 30
          rw [ec]
          exact k l _ (ms.take 30) (s1.trans (Same.new s4 hl)) upd_same (by rw [List.length_take]; omega)
end
end K51
/-! K51WC: the law's own defs: fours. -/
namespace K51
open PySem L2
def LisAt (H : Hp) (v : V) (F : List Ci) : Prop := ∃ a us, v = .ref a ∧ H a = some (.lst us) ∧ CisAt H us F
theorem LisAt.same {H H' : Hp} {v : V} {F : List Ci} (h : LisAt H v F) (s : Same H H') : LisAt H' v F := by
  obtain ⟨a, us, e, h1, h2⟩ := h
  exact ⟨a, us, e, s _ _ h1, CisAt.same h2 s⟩
theorem turn_succ : ∀ (n : Nat) (p : Int × Int), turn (n + 1) p = (-(turn n p).2, (turn n p).1)
  | 0, p => rfl
  | n + 1, p => by
    show turn (n + 1) (-p.2, p.1) = _
    rw [turn_succ n]
    rfl
section
variable {P : Program} {w : World} {K : PySem.W.Frag} {mg : Str → Option Value} {base : Heap}
/-! ### _law_base -/
def sp_lBase : Sp := fun vs H Q _ => ∃ n : Int, vs = [.int (5 * n)] ∧ (n = 1 ∨ n = 2) ∧ ∀ v H', Same H H' → LisAt H' v (K51.base n) → Q v H'
theorem sc_lBase : FnScope ["_law_number", "_law_n"] ["_law_number"] (defScope s_lBase) := ⟨rfl, rfl, rfl, by decide +kernel, rfl, by decide +kernel, by decide +kernel⟩
theorem ok_lBase (T : Txt K mg) : FnOk P w K mg base CX0 1 T.f_lBase T.d_lBase ["_law_number"] sp_lBase := by
  refine T.F_lBase.ok sc_lBase (fun vs H Q E h => ?_) (fun cdv A outer s H vs Q E hr h => ?_)
  · obtain ⟨n, rfl, _⟩ := h
    rfl
  · obtain ⟨n, rfl, hn, k⟩ := h
    refine ⟨_, pss_cons (ps_set (i := 1) sc_lBase.nd rfl (.inl rfl) (pe_op op_mod (pe_op op_fdiv (pe_callTy call_int1 (by rfl) T.b_int (by decide +kernel) (pa_cons (pv 0) pa_nil)) pe_int) pe_int)) <|
      pss_cons (ps_if (pt_cmpR op_lt (pe_op op_mod (pe_callTy call_int1 (by rfl) T.b_int (by decide +kernel) (pa_cons (pv 0) pa_nil)) pe_int) pe_int (nomark _))
        (pss_one <| ps_ret <| pe_lst <|
          pa_cons (pe_tup (pa_cons (pe_un un_neg (pv 1)) (pa_cons pe_int (pa_cons pe_int (pa_cons pe_int pa_nil))))) <|
          pa_cons (pe_tup (pa_cons (pe_op op_add (pv 1) pe_int) (pa_cons pe_int (pa_cons (pe_un un_neg pe_int) (pa_cons pe_int pa_nil))))) <|
          pa_cons (pe_tup (pa_cons (pe_op op_mul (pv 1) (pe_op op_add (pv 1) pe_int)) (pa_cons pe_int (pa_cons (pe_op op_sub (pe_op op_mul (pe_un un_neg pe_int) (pv 1)) pe_int) (pa_cons pe_int pa_nil))))) <|
          pa_cons (pe_tup (pa_cons (pe_op op_add (pe_op op_mul (pv 1) (pe_op op_add (pv 1) pe_int)) pe_int) (pa_cons pe_int (pa_cons (pe_op op_sub (pe_op op_mul (pe_un un_neg pe_int) (pv 1)) pe_int) (pa_cons pe_int pa_nil))))) pa_nil) pss_nil) pss_never, ?_⟩
    have e1 : 5 * n / 5 % 5 = n := by rcases hn with rfl | rfl <;> rfl
    have e2 : decide (5 * n % 5 < 3) = true := by rcases hn with rfl | rfl <;> rfl
    refine ⟨_, rfl, .inl ⟨_, rfl, _, _, rfl, rfl, ⟨by decide, by decide⟩, _, _, rfl, rfl, (by show (0 : Int) < 5; decide), ?_⟩⟩
    refine ⟨_, rfl, .inl ⟨_, rfl, _, _, rfl, rfl, (by show (0 : Int) < 5; decide), _, _, rfl, rfl, _, rfl, ?_⟩⟩
    rw [e2]
    refine iteT ?_
    have es : (L2.start ["_law_number", "_law_n"] [V.int (5 * n)]).set 1 (some (V.int (5 * n / 5 % 5))) = [some (V.int (5 * n)), some (V.int n)] := by
      rw [e1]
      rfl
    show tRet _ _ ((L2.start ["_law_number", "_law_n"] [V.int (5 * n)]).set 1 (some (V.int (5 * n / 5 % 5)))) H
    rw [es]
    have hb : -(2 ^ 64) < n ∧ n < 2 ^ 64 := by omega
    refine ⟨_, rfl, _, rfl, by show 4 ≤ sizeLine; decide, fun p1 h1 => ?_⟩
    refine ⟨_, rfl, _, _, rfl, rfl, _, rfl, by show 4 ≤ sizeLine; decide, fun p2 h2 => ?_⟩
    refine ⟨_, rfl, _, rfl, _, _, rfl, rfl, _, _, rfl, rfl, mulL hb, _, rfl, _, rfl, _, _, rfl, rfl, mulL (by decide), _, _, rfl, rfl, by show 4 ≤ sizeLine; decide, fun p3 h3 => ?_⟩
    refine ⟨_, rfl, _, rfl, _, _, rfl, rfl, _, _, rfl, rfl, mulL hb, _, _, rfl, rfl, _, rfl, _, rfl, _, _, rfl, rfl, mulL (by decide), _, _, rfl, rfl, by show 4 ≤ sizeLine; decide, fun p4 h4 => ?_⟩
    refine ⟨by show 4 ≤ sizeLine; decide, fun l hl => ?_⟩
    have s2 := same_upd (o := .tup [.int (n + 1), .int 0, .int (-1), .int 0]) h2
    have s3 := same_upd (o := .tup [.int (n * (n + 1)), .int 4, .int (-2 * n - 1), .int 0]) h3
    have s4 := same_upd (o := .tup [.int (n * (n + 1) + 1), .int 4, .int (-2 * n - 1), .int 2]) h4
    have s5 := same_upd (o := .lst [.ref p1, .ref p2, .ref p3, .ref p4]) hl
    refine k _ _ (((((same_upd h1).trans s2).trans s3).trans s4).trans s5) ⟨l, _, rfl, upd_same, ?_⟩
    exact .cons ⟨p1, rfl, s5 _ _ (s4 _ _ (s3 _ _ (s2 _ _ upd_same)))⟩ (.cons ⟨p2, rfl, s5 _ _ (s4 _ _ (s3 _ _ upd_same))⟩ (.cons ⟨p3, rfl, s5 _ _ (s4 _ _ upd_same)⟩ (.cons ⟨p4, rfl, s5 _ _ upd_same⟩ .nil)))
/-! ### _law_moved -/
def Sml (i : Int) : Prop := -(2 ^ 64) < i ∧ i < 2 ^ 64
def sp_lMoved : Sp := fun vs H Q _ => ∃ u p s t q f, vs = [u, .int s, .int t, .int (q : Nat), .bl f] ∧ CiAt H u p ∧ sm p = true ∧ Sml s ∧ Sml t ∧ q ≤ 3 ∧ ∀ v H', Same H H' → CiAt H' v (moved p s t q f) → Q v H'
abbrev N_lMoved : List Str := ["_law_circle", "_law_s", "_law_t", "_law_turns", "_law_mirror", "_law_b", "_law_c", "_law_x", "_law_y", "_law_k"]
theorem sc_lMoved : FnScope N_lMoved ["_law_circle", "_law_s", "_law_t", "_law_turns", "_law_mirror"] (defScope s_lMoved) := ⟨rfl, rfl, rfl, by decide +kernel, rfl, by decide +kernel, by decide +kernel⟩
theorem ok_lMoved (T : Txt K mg) : FnOk P w K mg base CX0 1 T.f_lMoved T.d_lMoved ["_law_circle", "_law_s", "_law_t", "_law_turns", "_law_mirror"] sp_lMoved := by
  refine T.F_lMoved.ok sc_lMoved (fun vs H Q E h => ?_) (fun cdv A outer s H vs Q E hr h => ?_)
  · obtain ⟨u, p, s, t, q, f, rfl, _⟩ := h
    rfl
  · obtain ⟨u, p, s, t, q, f, rfl, ⟨a, rfl, ha⟩, hp, hs, ht, hq, k⟩ := h
    refine ⟨_, pss_cons (ps_asg (pv 0) (pg_tup rfl (pgs_cons (pg_name (i := 5) sc_lMoved.nd rfl (.inl rfl)) (pgs_cons (pg_name (i := 6) sc_lMoved.nd rfl (.inl rfl)) (pgs_cons (pg_name (i := 7) sc_lMoved.nd rfl (.inl rfl)) (pgs_cons (pg_name (i := 8) sc_lMoved.nd rfl (.inl rfl)) pgs_nil)))))) <|
      pss_cons (ps_for PassesOwn.never rfl (pi_range1 (by rfl) T.b_range (pa_cons (pv 3) pa_nil)) (pg_name (i := 9) sc_lMoved.nd rfl (.inl rfl)) <| pss_one <|
        ps_par (i := 7) (j := 8) (by rfl) sc_lMoved.nd rfl rfl (by decide) rfl rfl (pa_cons (pe_un un_neg (pv 8)) (pa_cons (pv 7) pa_nil)) (by rfl)) <|
      pss_cons (ps_if (pt_val (pv 4)) (pss_one <| ps_set (i := 7) sc_lMoved.nd rfl (.inl rfl) (pe_un un_neg (pv 7))) pss_nil) <|
      pss_one <| ps_ret <| pe_tup <| pa_cons (pv 5) <|
        pa_cons (pe_op op_add (pe_op op_add (pv 6) (pe_op op_mul pe_int (pe_op op_add (pe_op op_mul (pv 7) (pv 1)) (pe_op op_mul (pv 8) (pv 2))))) (pe_op op_mul (pv 5) (pe_op op_add (pe_op op_mul (pv 1) (pv 1)) (pe_op op_mul (pv 2) (pv 2))))) <|
        pa_cons (pe_op op_add (pv 7) (pe_op op_mul (pv 5) (pv 1))) <| pa_cons (pe_op op_add (pv 8) (pe_op op_mul (pv 5) (pv 2))) pa_nil, ?_⟩
    refine ⟨_, rfl, a, _, rfl, SqT.of ha, rfl, _, _, rfl, _, _, rfl, _, _, rfl, _, _, rfl, rfl, ?_⟩
    refine ⟨_, rfl, (q : Nat), rfl, by omega, by omega, for_it (walk_range (lo := 0) (n := ((q : Nat) : Int).toNat)) (fun i σ H' => H' = H ∧ ∃ z, σ = [some (.ref a), some (.int s), some (.int t), some (.int (q : Nat)), some (.bl f), some (.int p.b), some (.int p.c), some (.int (turn i (p.x, p.y)).1), some (.int (turn i (p.x, p.y)).2), z])
      ⟨rfl, _, rfl⟩ (fun _ _ _ _ _ => trivial) ?_ ?_⟩
    · rintro i x σ H2 H3 hi ⟨rfl, z, rfl⟩ ⟨rfl, rfl⟩
      refine ⟨_, rfl, _, rfl, _, rfl, _, _, rfl, rfl, some (.int (0 + (i : Nat))), ?_⟩
      rw [turn_succ]
      rfl
    · rintro σ H2 ⟨rfl, z, rfl⟩
      have eq : ((q : Nat) : Int).toNat = q := by omega
      rw [eq]
      refine ⟨_, rfl, f, rfl, ?_⟩
      have fin : ∀ X : Int, X = (if f = true then -(turn q (p.x, p.y)).1 else (turn q (p.x, p.y)).1) → ∀ v H', Same H2 H' → CiAt H' v ⟨p.b, p.c + 2 * (X * s + (turn q (p.x, p.y)).2 * t) + p.b * (s * s + t * t), X + p.b * s, (turn q (p.x, p.y)).2 + p.b * t⟩ → Q v H' := by
        rintro X rfl v H' s' hv
        refine k v H' s' ?_
        unfold moved
        exact hv
      refine ite2 (fun hf => ?_) (fun hf => ?_)
      · refine ⟨_, rfl, _, rfl, ?_⟩
        refine ⟨_, rfl, _, rfl, _, rfl, _, rfl, _, _, rfl, rfl, mulR hs, _, rfl, _, rfl, _, _, rfl, rfl, mulR ht, _, _, rfl, rfl, _, _, rfl, rfl, mul2 _, _, _, rfl, rfl,
          _, rfl, _, rfl, _, rfl, _, _, rfl, rfl, mulR hs, _, rfl, _, rfl, _, _, rfl, rfl, mulR ht, _, _, rfl, rfl, _, _, rfl, rfl, mulb hp _, _, _, rfl, rfl,
          _, rfl, _, rfl, _, rfl, _, _, rfl, rfl, mulb hp _, _, _, rfl, rfl, _, rfl, _, rfl, _, rfl, _, _, rfl, rfl, mulb hp _, _, _, rfl, rfl, by show 4 ≤ sizeLine; decide, fun v hv => ?_⟩
        exact fin (-(turn q (p.x, p.y)).1) (by rw [if_pos hf]) _ _ (same_upd hv) ⟨v, rfl, upd_same⟩
      · refine ⟨_, rfl, _, rfl, _, rfl, _, rfl, _, _, rfl, rfl, mulR hs, _, rfl, _, rfl, _, _, rfl, rfl, mulR ht, _, _, rfl, rfl, _, _, rfl, rfl, mul2 _, _, _, rfl, rfl,
          _, rfl, _, rfl, _, rfl, _, _, rfl, rfl, mulR hs, _, rfl, _, rfl, _, _, rfl, rfl, mulR ht, _, _, rfl, rfl, _, _, rfl, rfl, mulb hp _, _, _, rfl, rfl,
          _, rfl, _, rfl, _, rfl, _, _, rfl, rfl, mulb hp _, _, _, rfl, rfl, _, rfl, _, rfl, _, rfl, _, _, rfl, rfl, mulb hp _, _, _, rfl, rfl, by show 4 ≤ sizeLine; decide, fun v hv => ?_⟩
        exact fin (turn q (p.x, p.y)).1 (by rw [if_neg hf]) _ _ (same_upd hv) ⟨v, rfl, upd_same⟩
end
end K51
/-! K51WD: the law's own defs: exchanges. -/
namespace K51
open PySem L2
theorem oth_cv4 {F : Fo} {k : Nat} {p : Ci} {a b c d : Ci} (e : F = [a, b, c, d]) (hk : Num k) (hp : F[k - 1]? = some p) :
    (List.range 4).map (fun j => V.int (2 * (prt j a + prt j b + prt j c + prt j d - prt j p) - prt j p)) = cv (oth F k) := by
  subst e
  rcases hk with rfl | rfl | rfl | rfl <;>
  · simp at hp
    subst hp
    simp [cv, oth, prt, List.range, List.range.loop] <;> (first | done | (refine ⟨?_, ?_, ?_, ?_⟩ <;> omega))
theorem exch_cat {F : Fo} {k : Nat} (hF : F.length = 4) (hk : Num k) : exch F k = F.take (k - 1) ++ [oth F k] ++ F.drop k := by
  obtain ⟨a, b, c, d, rfl⟩ := four_list hF
  rcases hk with rfl | rfl | rfl | rfl <;> rfl
theorem paired_append {α β : Type} {R : α → β → Prop} : ∀ {xs us : List α} {ys vs : List β}, Paired R xs ys → Paired R us vs → Paired R (xs ++ us) (ys ++ vs)
  | _, _, _, _, .nil, s => s
  | _, _, _, _, .cons r t, s => .cons r (paired_append t s)
theorem paired_take {α β : Type} {R : α → β → Prop} : ∀ {xs : List α} {ys : List β} (n : Nat), Paired R xs ys → Paired R (xs.take n) (ys.take n)
  | _, _, 0, _ => .nil
  | _, _, _ + 1, .nil => .nil
  | _, _, n + 1, .cons r t => .cons r (paired_take n t)
theorem paired_drop {α β : Type} {R : α → β → Prop} : ∀ {xs : List α} {ys : List β} (n : Nat), Paired R xs ys → Paired R (xs.drop n) (ys.drop n)
  | _, _, 0, r => r
  | _, _, _ + 1, .nil => .nil
  | _, _, n + 1, .cons _ t => paired_drop n t
theorem cut_to (xs : List V) {k : Nat} (h : k ≤ xs.length) : cutV xs none (some (k : Int)) = xs.take k := by
  unfold cutV
  rw [HT.sIx_nat, HT.sIx_none, List.drop_zero, Nat.sub_zero, Nat.min_eq_left h]
theorem cut_from (xs : List V) {k : Nat} (h : k ≤ xs.length) : cutV xs (some (k : Int)) none = xs.drop k := by
  unfold cutV
  rw [HT.sIx_nat, HT.sIx_none, Nat.min_eq_left h, List.take_of_length_le (by rw [List.length_drop]; exact Nat.le_refl _)]
section
variable {P : Program} {w : World} {K : PySem.W.Frag} {mg : Str → Option Value} {base : Heap}
/-! ### _law_other -/
def sp_lOther : Sp := fun vs H Q _ => ∃ v F k, vs = [v, .int (k : Nat)] ∧ LisAt H v F ∧ F.length = 4 ∧ Num k ∧ ∀ u H', Same H H' → CiAt H' u (oth F k) → Q u H'
abbrev N_lOther : List Str := ["_law_four_here", "_law_number", "_law_sums", "_law_k"]
theorem sc_lOther : FnScope N_lOther ["_law_four_here", "_law_number"] (defScope s_lOther) := ⟨rfl, rfl, rfl, by decide +kernel, rfl, by decide +kernel, by decide +kernel⟩
theorem ok_lOther (T : Txt K mg) : FnOk P w K mg base CX0 1 T.f_lOther T.d_lOther ["_law_four_here", "_law_number"] sp_lOther := by
  refine T.F_lOther.ok sc_lOther (fun vs H Q E h => ?_) (fun cdv A outer s H vs Q E hr h => ?_)
  · obtain ⟨v, F, k, rfl, _⟩ := h
    rfl
  · obtain ⟨v, F, n, rfl, ⟨l, us, rfl, h1, h2⟩, hF, hn, k⟩ := h
    refine ⟨_, pss_cons (ps_set (i := 2) sc_lOther.nd rfl (.inr rfl) (pe_lc (own := [("_law_k", 3)]) (g := gName 3) (tt := tYes) rfl sc_lOther.nd (pi_range1 (by rfl) T.b_range (pa_cons pe_int pa_nil)) (blkOk_by (N := N_lOther) (sc := defScope s_lOther) (by decide +kernel))
          (fun _ _ _ _ _ => pg_name (i := 3) sc_lOther.nd rfl (Or.inl rfl)) (fun _ _ _ _ _ => pts_nil)
          (fun _ _ _ _ _ => pe_op op_add (pe_op op_add (pe_op op_add (pe_ix (r := rIxT K) ix_tup (pe_ix (r := rIxL K) ix_list (pv 0) pe_int (fun _ _ => rfl)) (pv 3) (fun _ _ => rfl)) (pe_ix (r := rIxT K) ix_tup (pe_ix (r := rIxL K) ix_list (pv 0) pe_int (fun _ _ => rfl)) (pv 3) (fun _ _ => rfl)))
            (pe_ix (r := rIxT K) ix_tup (pe_ix (r := rIxL K) ix_list (pv 0) pe_int (fun _ _ => rfl)) (pv 3) (fun _ _ => rfl))) (pe_ix (r := rIxT K) ix_tup (pe_ix (r := rIxL K) ix_list (pv 0) pe_int (fun _ _ => rfl)) (pv 3) (fun _ _ => rfl))))) <|
      pss_one <| ps_ret <| pe_callTy call_tuple_of (by rfl) T.b_tuple (by decide +kernel) (pa_cons (pe_lc (own := [("_law_k", 3)]) (g := gName 3) (tt := tYes) rfl sc_lOther.nd (pi_range1 (by rfl) T.b_range (pa_cons pe_int pa_nil)) (blkOk_by (N := N_lOther) (sc := defScope s_lOther) (by decide +kernel))
          (fun _ _ _ _ _ => pg_name (i := 3) sc_lOther.nd rfl (Or.inl rfl)) (fun _ _ _ _ _ => pts_nil)
          (fun _ _ _ _ _ => pe_op op_sub (pe_op op_mul pe_int (pe_op op_sub (pe_ix (r := rIxL K) ix_list (pv 2) (pv 3) (fun _ _ => rfl)) (pe_ix (r := rIxT K) ix_tup (pe_ix (r := rIxL K) ix_list (pv 0) (pe_op op_sub (pv 1) pe_int) (fun _ _ => rfl)) (pv 3) (fun _ _ => rfl))))
            (pe_ix (r := rIxT K) ix_tup (pe_ix (r := rIxL K) ix_list (pv 0) (pe_op op_sub (pv 1) pe_int) (fun _ _ => rfl)) (pv 3) (fun _ _ => rfl)))) pa_nil), ?_⟩
    obtain ⟨a, b, c, d, eF⟩ := four_list hF
    obtain ⟨p, hp⟩ : ∃ p, F[n - 1]? = some p := ⟨F[n - 1]'(by rcases hn with rfl | rfl | rfl | rfl <;> omega), by simp⟩
    obtain ⟨va, hva, ca, rfl, ha⟩ := paired_at h2 (show F[0]? = some a by rw [eF]; rfl)
    obtain ⟨vb, hvb, cb, rfl, hb⟩ := paired_at h2 (show F[1]? = some b by rw [eF]; rfl)
    obtain ⟨vc, hvc, cc, rfl, hc⟩ := paired_at h2 (show F[2]? = some c by rw [eF]; rfl)
    obtain ⟨vd, hvd, cd, rfl, hd⟩ := paired_at h2 (show F[3]? = some d by rw [eF]; rfl)
    obtain ⟨vp, hvp, cp, rfl, hpp⟩ := paired_at h2 hp
    have en : ((n : Nat) : Int) - 1 = ((n - 1 : Nat) : Int) := by
      rcases hn with rfl | rfl | rfl | rfl <;> rfl
    refine ⟨4, rfl, by decide, by decide, fun D hD => lc_it (walk_range (lo := 0) (n := 4)) (Gr H D fun i acc _ => acc = (List.range i).map fun j => V.int (prt j a + prt j b + prt j c + prt j d)) (Gr.start hD rfl) (fun _ _ _ _ => trivial) ?_ ?_⟩
    · rintro i x H2 H3 hi ⟨s2, acc, e2, l2, rfl⟩ ⟨rfl, rfl⟩
      have hL := SqL.of (K := K) (s2 _ _ h1)
      have hi4 : i < 4 := hi
      have at4i : ∀ q : Ci, atI (cv q) (0 + (i : Nat)) = some (V.int (prt i q)) := fun q => by rw [Int.zero_add]; exact atI_nat (cv_at q hi4)
      refine ⟨rfl, tYes_if ?_⟩
      refine ⟨_, rfl, l, _, _, _, rfl, rfl, hL, atI_nat (j := 0) hva, _, rfl, ca, _, _, _, rfl, rfl, SqT.of (s2 _ _ ha), at4i a, _, rfl, l, _, _, _, rfl, rfl, hL, atI_nat (j := 1) hvb, _, rfl, cb, _, _, _, rfl, rfl, SqT.of (s2 _ _ hb), at4i b, _, _, rfl, rfl,
        _, rfl, l, _, _, _, rfl, rfl, hL, atI_nat (j := 2) hvc, _, rfl, cc, _, _, _, rfl, rfl, SqT.of (s2 _ _ hc), at4i c, _, _, rfl, rfl, _, rfl, l, _, _, _, rfl, rfl, hL, atI_nat (j := 3) hvd, _, rfl, cd, _, _, _, rfl, rfl, SqT.of (s2 _ _ hd), at4i d, _, _, rfl, rfl, ?_⟩
      refine Gr.push hD (by omega) s2 e2 l2 (Same.refl _) ?_
      rw [range_snoc]
    · rintro H2 ⟨s2, acc, e2, l2, rfl⟩
      refine ⟨4, rfl, by decide, by decide, fun D2 hD2 => lc_it (walk_range (lo := 0) (n := 4)) (Gr H2 D2 fun i acc _ => acc = (List.range i).map fun j => V.int (2 * (prt j a + prt j b + prt j c + prt j d - prt j p) - prt j p)) (Gr.start hD2 rfl) (fun _ _ _ _ => trivial) ?_ ?_⟩
      · rintro i x H3 H4 hi ⟨s3, acc, e3, l3, rfl⟩ ⟨rfl, rfl⟩
        have hL := SqL.of (K := K) ((s2.trans s3) _ _ h1)
        have hi4 : i < 4 := hi
        have at4i : atI (cv p) (0 + (i : Nat)) = some (V.int (prt i p)) := by rw [Int.zero_add]; exact atI_nat (cv_at p hi4)
        have hpT := SqT.of (K := K) ((s2.trans s3) _ _ hpp)
        have hix : atI us (((n : Nat) : Int) - 1) = some (V.ref cp) := by rw [en]; exact atI_nat hvp
        refine ⟨rfl, tYes_if ?_⟩
        have hsm : atI ((List.range 4).map fun j => V.int (prt j a + prt j b + prt j c + prt j d)) (0 + (i : Nat)) = some (V.int (prt i a + prt i b + prt i c + prt i d)) := by
          rw [Int.zero_add]
          exact atI_nat (by rw [List.getElem?_map, List.getElem?_range hi4]; rfl)
        refine ⟨_, rfl, _, rfl, D, _, _, _, rfl, rfl, SqL.of (s3 _ _ e2), hsm, _, rfl, _, rfl, _, _, rfl, rfl, l, _, _, _, rfl, rfl, hL, hix, _, rfl, cp, _, _, _, rfl, rfl, hpT, at4i, _, _, rfl, rfl, _, _, rfl, rfl, mul2 _,
          _, rfl, _, rfl, _, _, rfl, rfl, l, _, _, _, rfl, rfl, hL, hix, _, rfl, cp, _, _, _, rfl, rfl, hpT, at4i, _, _, rfl, rfl, ?_⟩
        refine Gr.push hD2 (by omega) s3 e3 l3 (Same.refl _) ?_
        rw [range_snoc]
      · rintro H3 ⟨s3, acc, e3, l3, rfl⟩
        refine ⟨D2, _, rfl, .inl ⟨SqL.of e3, fun t ht => ?_⟩⟩
        refine k _ _ (Same.new (s2.trans s3) ht) ⟨t, rfl, ?_⟩
        rw [upd_same, oth_cv4 eF hn hp]
/-! ### _law_exchanged -/
def sp_lExch : Sp := fun vs H Q _ => ∃ v F k, vs = [v, .int (k : Nat)] ∧ LisAt H v F ∧ F.length = 4 ∧ Num k ∧ ∀ u H', Same H H' → LisAt H' u (exch F k) → Q u H'
theorem sc_lExch : FnScope ["_law_four_here", "_law_number"] ["_law_four_here", "_law_number"] (defScope s_lExch) := ⟨rfl, rfl, rfl, by decide +kernel, rfl, by decide +kernel, by decide +kernel⟩
theorem ok_lExch (T : Txt K mg) : FnOk P w K mg base CX0 2 T.f_lExch T.d_lExch ["_law_four_here", "_law_number"] sp_lExch := by
  refine T.F_lExch.ok sc_lExch (fun vs H Q E h => ?_) (fun cdv A outer s H vs Q E hr h => ?_)
  · obtain ⟨v, F, k, rfl, _⟩ := h
    rfl
  · obtain ⟨v, F, n, rfl, hv, hF, hn, k⟩ := h
    refine ⟨_, pss_one <| ps_ret <| pe_op op_cat (pe_op op_cat (pe_slice sl_list (pv 0) po_none (po_some (pe_op op_sub (pv 1) pe_int))) (pe_lst (pa_cons (pe_call (ok_lOther T) hr (by rfl) T.g_lOther T.F_lOther.kp T.y_lOther .nil pass0 (pa_cons (pv 0) (pa_cons (pv 1) pa_nil))) pa_nil))) (pe_slice sl_list (pv 0) (po_some (pv 1)) po_none), ?_⟩
    obtain ⟨l, us, rfl, h1, h2⟩ := id hv
    have hlen : us.length = 4 := by rw [Paired.length h2, hF]
    have hn4 : n ≤ 4 := by rcases hn with rfl | rfl | rfl | rfl <;> decide
    have en : ((n : Nat) : Int) - 1 = ((n - 1 : Nat) : Int) := by
      rcases hn with rfl | rfl | rfl | rfl <;> rfl
    refine ⟨_, rfl, _, rfl, _, _, rfl, rfl, _, rfl, l, us, rfl, SqL.of h1, fun p1 hp1 => ?_⟩
    have ec1 : cutV us none (some (((n : Nat) : Int) - 1)) = us.take (n - 1) := by
      rw [en]
      exact cut_to us (by omega)
    rw [ec1]
    have s1 := same_upd (o := .lst (us.take (n - 1))) hp1
    have e1 : (upd H p1 (.lst (us.take (n - 1)))) p1 = some (.lst (us.take (n - 1))) := upd_same
    generalize upd H p1 (.lst (us.take (n - 1))) = H1 at s1 e1
    refine ⟨_, rfl, _, rfl, _, F, n, rfl, hv.same s1, hF, hn, fun u H2 s2 hu => ⟨by show 1 ≤ sizeLine; decide, fun p2 hp2 => ?_⟩⟩
    have s3 := same_upd (o := .lst [u]) hp2
    have e3 : (upd H2 p2 (.lst [u])) p2 = some (.lst [u]) := upd_same
    have hu3 : CiAt (upd H2 p2 (.lst [u])) u (oth F n) := hu.same s3
    generalize upd H2 p2 (.lst [u]) = H3 at s3 e3 hu3
    have e13 := (s2.trans s3) _ _ e1
    refine ⟨p1, p2, _, _, rfl, rfl, e13, e3, Nat.le_of_lt (small1000 (by rw [List.length_take]; simp; omega)), fun p4 hp4 => ?_⟩
    have s4 := same_upd (o := .lst (us.take (n - 1) ++ [u])) hp4
    have e4 : (upd H3 p4 (.lst (us.take (n - 1) ++ [u]))) p4 = some (.lst (us.take (n - 1) ++ [u])) := upd_same
    generalize upd H3 p4 (.lst (us.take (n - 1) ++ [u])) = H4 at s4 e4
    have s14 : Same H H4 := ((s1.trans s2).trans s3).trans s4
    refine ⟨_, rfl, _, rfl, _, rfl, l, us, rfl, SqL.of (s14 _ _ h1), fun p5 hp5 => ?_⟩
    rw [cut_from us (show n ≤ us.length by omega)]
    have s5 := same_upd (o := .lst (us.drop n)) hp5
    have e5 : (upd H4 p5 (.lst (us.drop n))) p5 = some (.lst (us.drop n)) := upd_same
    generalize upd H4 p5 (.lst (us.drop n)) = H5 at s5 e5
    refine ⟨p4, p5, _, _, rfl, rfl, s5 _ _ e4, e5, Nat.le_of_lt (small1000 (by simp; omega)), fun p6 hp6 => ?_⟩
    have s6 := same_upd (o := .lst (us.take (n - 1) ++ [u] ++ us.drop n)) hp6
    refine k _ _ ((s14.trans s5).trans s6) ⟨p6, _, rfl, upd_same, ?_⟩
    rw [exch_cat hF hn]
    exact paired_append (paired_append (CisAt.same (paired_take _ h2) ((s14.trans s5).trans s6)) (.cons (hu3.same ((s4.trans s5).trans s6)) .nil)) (CisAt.same (paired_drop _ h2) ((s14.trans s5).trans s6))
/-! ### _law_at -/
def sp_lAt (K : PySem.W.Frag) : Sp := fun vs H Q _ => ∃ v F t ws, vs = [v, .ref t] ∧ LisAt H v F ∧ F.length = 4 ∧ SqT K H t (wv ws) ∧ (∀ k ∈ ws, Num k) ∧ ∀ u H', Same H H' → LisAt H' u (at4 F ws) → Q u H'
theorem sc_lAt : FnScope ["_law_four_here", "_law_word_here", "_law_number"] ["_law_four_here", "_law_word_here"] (defScope s_lAt) := ⟨rfl, rfl, rfl, by decide +kernel, rfl, by decide +kernel, by decide +kernel⟩
theorem ok_lAt (T : Txt K mg) : FnOk P w K mg base CX0 3 T.f_lAt T.d_lAt ["_law_four_here", "_law_word_here"] (sp_lAt K) := by
  refine T.F_lAt.ok sc_lAt (fun vs H Q E h => ?_) (fun cdv A outer s H vs Q E hr h => ?_)
  · obtain ⟨v, F, t, ws, rfl, _⟩ := h
    rfl
  · obtain ⟨v, F, t, ws, rfl, hv, hF, hT, hn, k⟩ := h
    refine ⟨_, pss_cons (ps_for PassesOwn.never rfl (pi_tup (pv 1)) (pg_name (i := 2) sc_lAt.nd rfl (.inl rfl)) <| pss_one <| ps_set (i := 0) sc_lAt.nd rfl (.inl rfl) (pe_call (ok_lExch T) hr (by rfl) T.g_lExch T.F_lExch.kp T.y_lExch .nil pass0 (pa_cons (pv 0) (pa_cons (pv 2) pa_nil)))) <|
      pss_one (ps_ret (pv 0)), ?_⟩
    refine ⟨_, rfl, t, rfl, ⟨_, hT⟩, for_it (walk_tup (K := K) (a := t) (xs := wv ws)) (fun i σ H' => (∃ u x, σ = [some u, some (.ref t), x] ∧ LisAt H' u (at4 F (ws.take i))) ∧ Same H H') ⟨⟨_, _, rfl, hv⟩, Same.refl _⟩ (fun i σ H' _ g => sqT g.2 hT) ?_ ?_⟩
    · rintro i x σ H2 H3 hi ⟨⟨u, x0, rfl, hu⟩, s2⟩ ⟨rfl, hx⟩
      unfold wv at hx
      rw [List.getElem?_map] at hx
      obtain ⟨n, hm, e⟩ := Option.map_eq_some_iff.mp hx
      subst e
      refine ⟨_, rfl, _, rfl, u, _, n, rfl, hu, at4_len hF _, hn n (List.mem_of_getElem? hm), fun u2 H4 s4 hu2 => ?_⟩
      refine ⟨⟨_, _, rfl, ?_⟩, s2.trans s4⟩
      rw [take_succ_at hm, at4_snoc]
      exact hu2
    · rintro σ H2 ⟨⟨u, x0, rfl, hu⟩, s2⟩
      have el : (wv ws).length = ws.length := by simp [wv]
      rw [el, List.take_length] at hu
      exact ⟨_, rfl, k u H2 s2 hu⟩
end
end K51
/-! K51WE: the law's own defs: words, doubles, eighths. -/
namespace K51
open PySem L2
abbrev rLenQ (K : PySem.W.Frag) : List V → Hp → VK → Prop := fun xs H Q => ∃ p ys, xs = [.ref p] ∧ (SqL K H p ys ∨ SqT K H p ys) ∧ Q (.int ys.length) H
theorem letters_ne (ws : List Nat) : 0 < (letters ws).length := by
  unfold letters
  cases h : ws.getLast? with
  | none => simp [List.getLast?_eq_none_iff.mp h]
  | some x =>
    have hne : ws ≠ [] := fun e => by
      rw [e] at h
      cases h
    by_cases h1 : x = 1
    · subst h1
      simp [hne]
    · have : (1 : Nat) ∈ [1, 2, 3, 4].filter fun l => decide (ws = []) || decide (some x ≠ some l) := by
        rw [List.mem_filter]
        refine ⟨by simp, ?_⟩
        simp [hne, h1]
      exact List.length_pos_of_mem this
theorem letters_num {ws : List Nat} {l : Nat} (h : l ∈ letters ws) : Num l := by
  unfold letters at h
  have := (List.mem_filter.mp h).1
  simpa [Num] using this
theorem words_num : ∀ {n : Nat} {ws : List Nat}, ws ∈ wordsN n → ∀ k ∈ ws, Num k
  | 0, ws, h, k, hk => by
    unfold wordsN at h
    rw [List.mem_singleton.mp h] at hk
    cases hk
  | n + 1, ws, h, k, hk => by
    unfold wordsN at h
    obtain ⟨w, hw, hm⟩ := List.mem_flatMap.mp h
    obtain ⟨l, hl, e⟩ := List.mem_map.mp hm
    subst e
    rcases List.mem_append.mp hk with hk | hk
    · exact words_num hw k hk
    · rw [List.mem_singleton.mp hk]
      exact letters_num hl
theorem words_snoc {n : Nat} {ws : List Nat} {l : Nat} (h : ws ∈ wordsN n) (hl : l ∈ letters ws) : ws ++ [l] ∈ wordsN (n + 1) := by
  unfold wordsN
  exact List.mem_flatMap.mpr ⟨ws, h, List.mem_map.mpr ⟨l, hl, rfl⟩⟩
theorem words_len : ∀ {n : Nat} {ws : List Nat}, ws ∈ wordsN n → ws.length = n
  | 0, ws, h => by
    unfold wordsN at h
    rw [List.mem_singleton.mp h]
    rfl
  | n + 1, ws, h => by
    unfold wordsN at h
    obtain ⟨w, hw, hm⟩ := List.mem_flatMap.mp h
    obtain ⟨l, hl, e⟩ := List.mem_map.mp hm
    subst e
    rw [List.length_append, words_len hw]
    rfl
def lcond (ws : List Nat) (l : Nat) : Bool := decide (ws = []) || decide (ws.getLast? ≠ some l)
theorem wv_len (ws : List Nat) : (wv ws).length = ws.length := by simp [wv]
section
variable {P : Program} {w : World} {K : PySem.W.Frag} {mg : Str → Option Value} {base : Heap}
/-! ### _law_word -/
def sp_lWord (K : PySem.W.Frag) : Sp := fun vs H Q _ => ∃ a ms n, vs = [.ref a, .int 5, .int (n : Nat)] ∧ SqL K H a (iv ms) ∧ ms.length = 30 ∧ n ≤ 3 ∧ ∀ t H' ws, Same H H' → SqT K H' t (wv ws) → ws ∈ wordsN n → Q (.ref t) H'
abbrev N_lWord : List Str := ["_law_numbers_here", "_law_at_here", "_law_many", "_law_word_here", "_law_k", "_law_letters", "_law_one"]
theorem sc_lWord : FnScope N_lWord ["_law_numbers_here", "_law_at_here", "_law_many"] (defScope s_lWord) := ⟨rfl, rfl, rfl, by decide +kernel, rfl, by decide +kernel, by decide +kernel⟩
theorem ok_lWord (T : Txt K mg) : FnOk P w K mg base CX0 1 T.f_lWord T.d_lWord ["_law_numbers_here", "_law_at_here", "_law_many"] (sp_lWord K) := by
  refine T.F_lWord.ok sc_lWord (fun vs H Q E h => ?_) (fun cdv A outer s H vs Q E hr h => ?_)
  · obtain ⟨a, ms, n, rfl, _⟩ := h
    rfl
  · obtain ⟨a, ms, n, rfl, hS, hms, hn, k⟩ := h
    refine ⟨_, pss_cons (ps_set (i := 3) sc_lWord.nd rfl (.inr rfl) (pe_tup pa_nil)) <|
      pss_cons (ps_for PassesOwn.never rfl (pi_range1 (by rfl) T.b_range (pa_cons (pv 2) pa_nil)) (pg_name (i := 4) sc_lWord.nd rfl (.inl rfl)) <|
        pss_cons (ps_setLc (i := 5) (own := [("_law_one", 6)]) (g := gName 6) rfl sc_lWord.nd rfl rfl (sw_true rfl rfl rfl (by decide +kernel)) (pi_tup (pe_tup (pa_cons pe_int (pa_cons pe_int (pa_cons pe_int (pa_cons pe_int pa_nil)))))) (blkOk_by (N := N_lWord) (sc := defScope s_lWord) (by decide +kernel))
            (fun _ _ _ _ _ => pg_name (i := 6) sc_lWord.nd rfl (Or.inl rfl))
            (fun _ _ _ _ _ => pts_one (PW.pt (pw_or (pt_cmpR op_eq (pe_callB (r := rLenQ K) call_len_seq (by rfl) T.b_len PySem.boot_len (pa_cons (pv 3) pa_nil)) pe_int (nomark _)) (pw_or1 (pt_cmpR op_ne (pv 6) (pe_ix (r := rIxT K) ix_tup (pv 3) (pe_un un_neg pe_int) (fun _ _ => rfl)) (nomark _))))))
            (fun _ _ _ _ _ => pv 6)) <|
        pss_one <| ps_set (i := 3) sc_lWord.nd rfl (.inr rfl) (pe_op op_catA (pv 3) (pe_tup (pa_cons (pe_ix ix_list (pv 5) (pe_op op_mod (pe_callTy call_int1 (by rfl) T.b_int (by decide +kernel) (pa_cons (pe_ix ix_list (pv 0) (pe_op op_add (pv 1) (pv 4)) (fun _ _ => rfl)) pa_nil)) (pe_callB call_len_seq (by rfl) T.b_len PySem.boot_len (pa_cons (pv 5) pa_nil))) (fun _ _ => rfl)) pa_nil)))) <|
      pss_one (ps_ret (pv 3)), ?_⟩
    refine ⟨Nat.zero_le _, fun t0 ht0 => ?_⟩
    have s1 : Same H (upd H t0 (.tup [])) := same_upd ht0
    refine ⟨_, rfl, (n : Nat), rfl, by omega, by omega, for_it (walk_range (lo := 0) (n := ((n : Nat) : Int).toNat)) (fun i σ H' => ∃ t x y ws, σ = [some (.ref a), some (.int 5), some (.int (n : Nat)), some (.ref t), x, y, none] ∧ Same H H' ∧ SqT K H' t (wv ws) ∧ ws ∈ wordsN i)
      ⟨t0, none, none, [], rfl, s1, SqT.of upd_same, List.mem_singleton.mpr rfl⟩ (fun _ _ _ _ _ => trivial) ?_ ?_⟩
    · rintro i x σ H2 H3 hi ⟨t, x0, y0, ws, rfl, s2, hT, hw⟩ ⟨rfl, rfl⟩
      have hi3 : i < 3 := by omega
      have hwl := words_len hw
      refine ⟨by show 4 ≤ sizeLine; decide, fun tp htp => ⟨tp, rfl, ⟨_, SqT.of upd_same⟩, ?_⟩⟩
      have s3 := same_upd (o := .tup [.int 1, .int 2, .int 3, .int 4]) htp
      have etp : (upd H3 tp (.tup [.int 1, .int 2, .int 3, .int 4])) tp = some (.tup [.int 1, .int 2, .int 3, .int 4]) := upd_same
      generalize upd H3 tp (.tup [.int 1, .int 2, .int 3, .int 4]) = H4 at s3 etp
      intro D hD
      refine lc_it (walk_tup (K := K) (a := tp) (xs := [.int 1, .int 2, .int 3, .int 4])) (Gr H4 D fun j acc _ => acc = wv ((([1, 2, 3, 4] : List Nat).take j).filter (lcond ws))) (Gr.start hD rfl) (fun j H' _ g => SqT.of (g.1 _ _ etp)) ?_ ?_
      · rintro j x H5 H6 hj ⟨s5, acc, e5, l5, rfl⟩ ⟨rfl, hx⟩
        have hj4 : j < 4 := hj
        have ex := num_at hj4 hx
        subst ex
        have hT6 : SqT K H6 t (wv ws) := sqT (s3.trans s5) hT
        have egoal : ∀ b : Bool, lcond ws (j + 1) = b → ((([1, 2, 3, 4] : List Nat).take (j + 1)).filter (lcond ws)) = (([1, 2, 3, 4] : List Nat).take j).filter (lcond ws) ++ (if b = true then [j + 1] else []) := fun b hb => by
          have e1 : ([1, 2, 3, 4] : List Nat)[j]? = some (j + 1) := by
            match j, hj4 with
            | 0, _ => rfl
            | 1, _ => rfl
            | 2, _ => rfl
            | 3, _ => rfl
          rw [take_succ_at e1, List.filter_append]
          cases b with
          | true => simp [hb]
          | false => simp [hb]
        have fin : ∀ b : Bool, lcond ws (j + 1) = b → (if b = true then (∃ acc, H6 D = some (.lst acc) ∧ acc.length < sizeLine ∧ Gr H4 D (fun j acc _ => acc = wv ((([1, 2, 3, 4] : List Nat).take j).filter (lcond ws))) (j + 1) (upd H6 D (.lst (acc ++ [.int ((j + 1 : Nat) : Int)]))))
            else Gr H4 D (fun j acc _ => acc = wv ((([1, 2, 3, 4] : List Nat).take j).filter (lcond ws))) (j + 1) H6) := fun b hb => by
          have eg := egoal b hb
          cases b with
          | true =>
            rw [if_pos rfl] at eg ⊢
            refine Gr.push hD (by omega) s5 e5 l5 (Same.refl _) ?_
            rw [eg, wv_snoc]
          | false =>
            rw [if_neg Bool.false_ne_true] at eg ⊢
            refine Gr.keep s5 e5 l5 (Same.refl _) ?_
            rw [eg, List.append_nil]
        refine ⟨rfl, _, rfl, t, _, rfl, .inr hT6, rfl, _, rfl, ?_⟩
        have ed : decide (V.int ((wv ws).length : Nat) = V.int 0) = decide (ws = []) := by
          rw [dec_int', wv_len]
          cases ws with
          | nil => rfl
          | cons b r =>
            have q1 : ¬ (((b :: r).length : Nat) : Int) = 0 := by
              rw [List.length_cons]
              omega
            rw [decide_eq_false q1, decide_eq_false (List.cons_ne_nil b r)]
        rw [ed]
        refine ite2 (fun h1 => ?_) (fun h1 => ?_)
        · have hb : lcond ws (j + 1) = true := by
            unfold lcond
            rw [h1]
            rfl
          have := fin true hb
          rw [if_pos rfl] at this
          refine iteT ?_
          exact ⟨_, rfl, this⟩
        · have h1' : ws ≠ [] := fun e => h1 (decide_eq_true e)
          obtain ⟨ini, last, ew⟩ : ∃ ini last, ws = ini ++ [last] := ⟨ws.dropLast, ws.getLast h1', (List.dropLast_concat_getLast h1').symm⟩
          have hat : atI (wv ws) (-1) = some (V.int (last : Nat)) := by
            rw [ew, wv_snoc]
            exact atI_last _ _
          have hgl : ws.getLast? = some last := by rw [ew]; simp
          refine ⟨_, rfl, _, rfl, _, rfl, t, _, _, _, rfl, rfl, hT6, hat, rfl, _, rfl, ?_⟩
          have hb : lcond ws (j + 1) = !decide (V.int ((j + 1 : Nat) : Int) = V.int (last : Nat)) := by
            unfold lcond
            rw [decide_eq_false h1', Bool.false_or, hgl, dec_int']
            by_cases h : last = j + 1
            · subst h
              simp
            · rw [decide_eq_true (by simpa using h), decide_eq_false (by omega)]
              rfl
          have := fin _ hb
          refine ite2 (fun h2 => ?_) (fun h2 => ?_)
          · rw [if_pos h2] at this
            exact ⟨_, rfl, this⟩
          · rw [if_neg h2] at this
            exact this
      · rintro H5 ⟨s5, acc, e5, l5, rfl⟩
        have el : (([1, 2, 3, 4] : List Nat).take ([.int 1, .int 2, .int 3, .int 4] : List V).length).filter (lcond ws) = letters ws := rfl
        rw [el] at e5
        have hT5 : SqT K H5 t (wv ws) := sqT (s3.trans s5) hT
        have hS5 : SqL K H5 a (iv ms) := (s2.trans (s3.trans s5)).seq hS
        have hlp := letters_ne ws
        obtain ⟨mk, hmk⟩ : ∃ mk, ms[5 + i]? = some mk := ⟨_, List.getElem?_eq_getElem (by omega)⟩
        have hat : atI (iv ms) (5 + (0 + (i : Nat))) = some (V.int mk) := by
          have : (5 : Int) + (0 + (i : Nat)) = ((5 + i : Nat) : Int) := by omega
          rw [this]
          exact atI_nat (by unfold iv; rw [List.getElem?_map, hmk]; rfl)
        have hlpos : (0 : Int) < ((wv (letters ws)).length : Nat) := by
          rw [wv_len]
          omega
        obtain ⟨l, hl, hatl⟩ : ∃ l ∈ letters ws, atI (wv (letters ws)) (mk % ((wv (letters ws)).length : Nat)) = some (V.int (l : Nat)) := by
          have h0 := Int.emod_nonneg mk (b := ((wv (letters ws)).length : Nat)) (by omega)
          have h1 := Int.emod_lt_of_pos mk hlpos
          obtain ⟨j, hj⟩ : ∃ j : Nat, mk % ((wv (letters ws)).length : Nat) = (j : Int) := ⟨_, (Int.toNat_of_nonneg h0).symm⟩
          rw [hj] at h1 ⊢
          have hj2 : j < (letters ws).length := by
            rw [wv_len] at h1
            omega
          refine ⟨(letters ws)[j], List.getElem_mem hj2, atI_nat ?_⟩
          unfold wv
          rw [List.getElem?_map, List.getElem?_eq_getElem hj2]
          rfl
        refine ⟨_, rfl, _, rfl, _, rfl, _, rfl, _, rfl, _, _, rfl, rfl, a, _, _, _, rfl, rfl, hS5, hat, .inl ⟨_, rfl, _, rfl, D, _, rfl, .inl (SqL.of e5), _, _, rfl, rfl, hlpos, D, _, _, _, rfl, rfl, SqL.of e5, hatl, by show 1 ≤ sizeLine; decide, fun tq htq => ?_⟩⟩
        have s6 := same_upd (o := .tup [.int (l : Nat)]) htq
        have e6 : (upd H5 tq (.tup [.int (l : Nat)])) tq = some (.tup [.int (l : Nat)]) := upd_same
        generalize upd H5 tq (.tup [.int (l : Nat)]) = H6 at s6 e6
        have s26 : Same H H6 := s2.trans ((s3.trans s5).trans s6)
        refine ⟨t, tq, _, _, rfl, rfl, sqT s6 hT5, SqT.of e6, Nat.le_of_lt (small1000 (by rw [wv_len, hwl]; simp; omega)), fun h => ?_, (fun _ h => by cases h), fun h _ tr htr => ?_⟩
        · refine ⟨tq, _, _, [l], rfl, s26, SqT.of e6, ?_⟩
          have hws : ws = [] := by
            cases ws with
            | nil => rfl
            | cons _ _ => cases h
          have := words_snoc hw hl
          rw [hws] at this
          exact this
        · refine ⟨tr, _, _, ws ++ [l], rfl, s26.trans (same_upd htr), SqT.of ?_, words_snoc hw hl⟩
          rw [upd_same, wv_snoc]
    · rintro σ H2 ⟨t, x0, y0, ws, rfl, s2, hT, hw⟩
      have : ((n : Nat) : Int).toNat = n := by omega
      rw [this] at hw
      exact ⟨_, rfl, k t H2 ws s2 hT hw⟩
end
end K51
/-! K51WF: data; doubles, eighths. -/
namespace K51
open PySem L2
/-! ### lists of ints, of circles, as data -/
def dI (ns : List Int) : List PyData := ns.map PyData.int
def dC (p : Ci) : PyData := .tuple (dI (il p))
def dCs (ps : List Ci) : List PyData := ps.map dC
theorem dI_lay : ∀ ns : List Int, PyData.canLayAll0 (dI ns) = true
  | [] => by simp [dI, PyData.canLayAll0]
  | n :: ns => by
    have := dI_lay ns
    simp only [dI] at this ⊢
    simp [PyData.canLayAll0, PyData.canLay0, this]
theorem dI_depth : ∀ ns : List Int, PyData.depthAll (dI ns) ≤ 1
  | [] => by simp [dI, PyData.depthAll]
  | n :: ns => by
    have := dI_depth ns
    simp only [dI] at this ⊢
    simp only [List.map_cons, PyData.depthAll, PyData.depth]
    omega
theorem dI_shaped (ns : List Int) : SeqAt.shaped (.list (dI ns)) = true := by
  have h1 := dI_depth ns
  have h2 : PyData.depth (.list (dI ns)) ≤ 64 := by
    simp only [PyData.depth]
    omega
  show (PyData.canLay0 (.list (dI ns)) && decide (PyData.depth (.list (dI ns)) ≤ 64)) = true
  rw [Bool.and_eq_true]
  exact ⟨by simp only [PyData.canLay0]; exact dI_lay ns, decide_eq_true h2⟩
theorem dI_eqv : ∀ ns ms : List Int, PyData.eqvAll (dI ns) (dI ms) = decide (ns = ms)
  | [], [] => by simp [dI, PyData.eqvAll]
  | [], _ :: _ => by simp [dI, PyData.eqvAll]
  | _ :: _, [] => by simp [dI, PyData.eqvAll]
  | n :: ns, m :: ms => by
    have ih := dI_eqv ns ms
    simp only [dI] at ih ⊢
    simp only [List.map_cons, PyData.eqvAll, PyData.eqv, ih]
    by_cases h : n = m
    · subst h
      by_cases h2 : ns = ms
      · subst h2
        simp
      · simp [h2]
    · simp [h]
theorem dI_eqvL (ns ms : List Int) : PyData.eqv (.list (dI ns)) (.list (dI ms)) = decide (ns = ms) := by
  simp only [PyData.eqv]
  exact dI_eqv ns ms
theorem dpAll_iv {K : PySem.W.Frag} {H : Hp} : ∀ ns : List Int, DpAll K H (iv ns) (dI ns)
  | [] => .nil
  | n :: ns => .cons (.int n) (dpAll_iv ns)
theorem il_inj {p q : Ci} (h : il p = il q) : p = q := by
  obtain ⟨a, b, c, d⟩ := p
  obtain ⟨a', b', c', d'⟩ := q
  simp only [il, List.cons.injEq, and_true] at h
  obtain ⟨rfl, rfl, rfl, rfl⟩ := h
  rfl
theorem dC_shaped (p : Ci) : SeqAt.shaped (dC p) = true := by
  have h1 := dI_depth (il p)
  have h2 : PyData.depth (dC p) ≤ 64 := by
    simp only [dC, PyData.depth]
    omega
  show (PyData.canLay0 (dC p) && decide (PyData.depth (dC p) ≤ 64)) = true
  rw [Bool.and_eq_true]
  exact ⟨by simp only [dC, PyData.canLay0]; exact dI_lay _, decide_eq_true h2⟩
theorem dC_depth (p : Ci) : (dC p).depth ≤ 2 := by
  have h1 := dI_depth (il p)
  simp only [dC, PyData.depth]
  omega
theorem dC_lay (p : Ci) : (dC p).canLay0 = true := by
  simp only [dC, PyData.canLay0]
  exact dI_lay _
theorem dC_eqv (p q : Ci) : PyData.eqv (dC p) (dC q) = decide (p = q) := by
  simp only [dC, PyData.eqv]
  rw [dI_eqv]
  by_cases h : p = q
  · subst h
    simp
  · rw [decide_eq_false h, decide_eq_false fun e => h (il_inj e)]
theorem dCs_lay : ∀ ps : List Ci, PyData.canLayAll0 (dCs ps) = true
  | [] => by simp [dCs, PyData.canLayAll0]
  | p :: ps => by
    have := dCs_lay ps
    simp only [dCs] at this ⊢
    simp [PyData.canLayAll0, dC_lay p, this]
theorem dCs_depth : ∀ ps : List Ci, PyData.depthAll (dCs ps) ≤ 2
  | [] => by simp [dCs, PyData.depthAll]
  | p :: ps => by
    have h1 := dCs_depth ps
    have h2 := dC_depth p
    simp only [dCs] at h1 ⊢
    simp only [List.map_cons, PyData.depthAll]
    omega
theorem dCs_shaped (ps : List Ci) : SeqAt.shaped (.list (dCs ps)) = true := by
  have h1 := dCs_depth ps
  have h2 : PyData.depth (.list (dCs ps)) ≤ 64 := by
    simp only [PyData.depth]
    omega
  show (PyData.canLay0 (.list (dCs ps)) && decide (PyData.depth (.list (dCs ps)) ≤ 64)) = true
  rw [Bool.and_eq_true]
  exact ⟨by simp only [PyData.canLay0]; exact dCs_lay ps, decide_eq_true h2⟩
theorem dCs_eqv : ∀ ps qs : List Ci, PyData.eqvAll (dCs ps) (dCs qs) = decide (ps = qs)
  | [], [] => by simp [dCs, PyData.eqvAll]
  | [], _ :: _ => by simp [dCs, PyData.eqvAll]
  | _ :: _, [] => by simp [dCs, PyData.eqvAll]
  | n :: ns, m :: ms => by
    have ih := dCs_eqv ns ms
    simp only [dCs] at ih ⊢
    simp only [List.map_cons, PyData.eqvAll, ih, dC_eqv]
    by_cases h : n = m
    · subst h
      by_cases h2 : ns = ms
      · subst h2
        simp
      · simp [h2]
    · simp [h]
theorem dCs_eqvL (ps qs : List Ci) : PyData.eqv (.list (dCs ps)) (.list (dCs qs)) = decide (ps = qs) := by
  simp only [PyData.eqv]
  exact dCs_eqv ps qs
theorem dp_ci {K : PySem.W.Frag} {H : Hp} {v : V} {p : Ci} (h : CiAt H v p) : Dp K H v (dC p) := by
  obtain ⟨a, rfl, ha⟩ := h
  exact .tup (SqT.of ha) (dpAll_iv (il p))
theorem dpAll_cis {K : PySem.W.Frag} {H : Hp} : ∀ {vs : List V} {ps : List Ci}, CisAt H vs ps → DpAll K H vs (dCs ps)
  | _, _, .nil => .nil
  | _, _, .cons r t => .cons (dp_ci r) (dpAll_cis t)
section
variable {P : Program} {w : World} {K : PySem.W.Frag} {mg : Str → Option Value} {base : Heap}
/-! ### _law_double -/
def sp_lDouble : Sp := fun vs H Q _ => ∃ v u p q, vs = [v, u] ∧ CiAt H v p ∧ CiAt H u q ∧ sm p = true ∧ Q (.int (ldbl p q)) H
theorem sc_lDouble : FnScope ["_law_one", "_law_other_here"] ["_law_one", "_law_other_here"] (defScope s_lDouble) := ⟨rfl, rfl, rfl, by decide +kernel, rfl, by decide +kernel, by decide +kernel⟩
theorem ok_lDouble (T : Txt K mg) : FnOk P w K mg base CX0 1 T.f_lDouble T.d_lDouble ["_law_one", "_law_other_here"] sp_lDouble := by
  refine T.F_lDouble.ok sc_lDouble (fun vs H Q E h => ?_) (fun cdv A outer s H vs Q E hr h => ?_)
  · obtain ⟨v, u, p, q, rfl, _⟩ := h
    rfl
  · obtain ⟨v, u, p, q, rfl, ⟨a, rfl, ha⟩, ⟨b, rfl, hb⟩, hp, k⟩ := h
    refine ⟨_, pss_one <| ps_ret <| pe_op op_sub (pe_op op_sub (pe_op op_mul pe_int (pe_op op_add (pe_op op_mul (pe_ix ix_tup (pv 0) pe_int (fun _ _ => rfl)) (pe_ix ix_tup (pv 1) pe_int (fun _ _ => rfl))) (pe_op op_mul (pe_ix ix_tup (pv 0) pe_int (fun _ _ => rfl)) (pe_ix ix_tup (pv 1) pe_int (fun _ _ => rfl)))))
      (pe_op op_mul (pe_ix ix_tup (pv 0) pe_int (fun _ _ => rfl)) (pe_ix ix_tup (pv 1) pe_int (fun _ _ => rfl)))) (pe_op op_mul (pe_ix ix_tup (pv 0) pe_int (fun _ _ => rfl)) (pe_ix ix_tup (pv 1) pe_int (fun _ _ => rfl))), ?_⟩
    refine ⟨_, rfl, a, _, _, _, rfl, rfl, SqT.of ha, atI_nat (j := 2) rfl, _, rfl, b, _, _, _, rfl, rfl, SqT.of hb, atI_nat (j := 2) rfl, _, _, rfl, rfl, mulx hp _,
      _, rfl, a, _, _, _, rfl, rfl, SqT.of ha, atI_nat (j := 3) rfl, _, rfl, b, _, _, _, rfl, rfl, SqT.of hb, atI_nat (j := 3) rfl, _, _, rfl, rfl, muly hp _, _, _, rfl, rfl, _, _, rfl, rfl, mul2 _,
      _, rfl, a, _, _, _, rfl, rfl, SqT.of ha, atI_nat (j := 0) rfl, _, rfl, b, _, _, _, rfl, rfl, SqT.of hb, atI_nat (j := 1) rfl, _, _, rfl, rfl, mulb hp _, _, _, rfl, rfl,
      _, rfl, a, _, _, _, rfl, rfl, SqT.of ha, atI_nat (j := 1) rfl, _, rfl, b, _, _, _, rfl, rfl, SqT.of hb, atI_nat (j := 0) rfl, _, _, rfl, rfl, mulc hp _, _, _, rfl, rfl, ?_⟩
    exact k
/-! ### _law_eighths -/
def sp_lEighths : Sp := fun vs H Q _ => ∃ v u F p, vs = [v, u] ∧ LisAt H v F ∧ F.length ≤ 4 ∧ CiAt H u p ∧ sm p = true ∧ ∀ l H', Same H H' → H' l = some (.lst (iv (eig F p))) → Q (.ref l) H'
abbrev N_lEighths : List Str := ["_law_four_here", "_law_circle", "_law_doubles", "_law_one"]
theorem sc_lEighths : FnScope N_lEighths ["_law_four_here", "_law_circle"] (defScope s_lEighths) := ⟨rfl, rfl, rfl, by decide +kernel, rfl, by decide +kernel, by decide +kernel⟩
theorem ok_lEighths (T : Txt K mg) : FnOk P w K mg base CX0 2 T.f_lEighths T.d_lEighths ["_law_four_here", "_law_circle"] sp_lEighths := by
  refine T.F_lEighths.ok sc_lEighths (fun vs H Q E h => ?_) (fun cdv A outer s H vs Q E hr h => ?_)
  · obtain ⟨v, u, F, p, rfl, _⟩ := h
    rfl
  · obtain ⟨v, u, F, p, rfl, ⟨l, us, rfl, h1, h2⟩, hF, hu, hp, k⟩ := h
    refine ⟨_, pss_cons (ps_set (i := 2) sc_lEighths.nd rfl (.inr rfl) (pe_lc (own := [("_law_one", 3)]) (g := gName 3) (tt := tYes) rfl sc_lEighths.nd (pi_list (pv 0)) (blkOk_by (N := N_lEighths) (sc := defScope s_lEighths) (by decide +kernel))
          (fun _ _ _ _ _ => pg_name (i := 3) sc_lEighths.nd rfl (Or.inl rfl)) (fun _ _ _ _ _ => pts_nil)
          (fun _ _ _ _ _ => pe_call (ok_lDouble T) hr (by rfl) T.g_lDouble T.F_lDouble.kp T.y_lDouble .nil pass0 (pa_cons (pv 1) (pa_cons (pv 3) pa_nil))))) <|
      pss_one <| ps_ret (pe_lc (own := [("_law_one", 3)]) (g := gName 3) (tt := tYes) rfl sc_lEighths.nd (pi_list (pv 2)) (blkOk_by (N := N_lEighths) (sc := defScope s_lEighths) (by decide +kernel))
          (fun _ _ _ _ _ => pg_name (i := 3) sc_lEighths.nd rfl (Or.inl rfl)) (fun _ _ _ _ _ => pts_nil)
          (fun _ _ _ _ _ => pe_op op_sub (pe_op op_mul pe_int (pv 3)) (pe_callB (r := rSum K) (cr_sum rfl) (by rfl) T.b_sum (by decide +kernel) (pa_cons (pv 2) pa_nil)))), ?_⟩
    have hlen : us.length = F.length := Paired.length h2
    refine ⟨_, rfl, l, rfl, ⟨us, SqL.of h1⟩, fun D hD => lc_it (walk_list (K := K) (a := l) (xs := us)) (Gr H D fun i acc _ => acc = iv ((F.take i).map (ldbl p))) (Gr.start hD rfl) (fun i H' _ g => SqL.of (g.1 _ _ h1)) ?_ ?_⟩
    · rintro i x H2 H3 hi ⟨s2, acc, e2, l2, rfl⟩ ⟨rfl, hx⟩
      obtain ⟨q, hq, rq⟩ := paired_at' h2 hx
      refine ⟨rfl, tYes_if ?_⟩
      refine ⟨_, rfl, _, rfl, u, x, p, q, rfl, hu.same s2, rq.same s2, hp, ?_⟩
      refine Gr.push hD (by omega) s2 e2 l2 (Same.refl _) ?_
      rw [take_succ_at hq, List.map_append]
      exact (iv_snoc _ _).symm
    · rintro H2 ⟨s2, acc, e2, l2, rfl⟩
      rw [hlen, List.take_length] at e2
      have hL : (iv (F.map (ldbl p))).length = F.length := by simp [iv]
      refine ⟨_, rfl, D, rfl, ⟨_, SqL.of e2⟩, fun D2 hD2 => lc_it (walk_list (K := K) (a := D) (xs := iv (F.map (ldbl p)))) (Gr H2 D2 fun i acc _ => acc = iv (((F.map (ldbl p)).take i).map fun d => 2 * d - (F.map (ldbl p)).sum)) (Gr.start hD2 rfl) (fun i H' _ g => SqL.of (g.1 _ _ e2)) ?_ ?_⟩
      · rintro i x H3 H4 hi ⟨s3, acc, e3, l3, rfl⟩ ⟨rfl, hx⟩
        unfold iv at hx
        rw [List.getElem?_map] at hx
        obtain ⟨d, hd, e⟩ := Option.map_eq_some_iff.mp hx
        subst e
        refine ⟨rfl, tYes_if ?_⟩
        refine ⟨_, rfl, _, _, rfl, rfl, mul2 _, _, rfl, D, F.map (ldbl p), rfl, SqL.of (s3 _ _ e2), _, _, rfl, rfl, ?_⟩
        refine Gr.push hD2 (by omega) s3 e3 l3 (Same.refl _) ?_
        rw [take_succ_at hd, List.map_append]
        exact (iv_snoc _ _).symm
      · rintro H3 ⟨s3, acc, e3, l3, rfl⟩
        refine k D2 H3 (s2.trans s3) ?_
        rw [e3, hL, List.take_of_length_le (by rw [List.length_map]; exact Nat.le_refl _)]
        rfl
end
end K51
/-! K51WG: the law's own defs: addresses. -/
namespace K51
open PySem L2
theorem unit_iff {ns kk : List Int} (hp : ns.Perm kk) (hs : ns.Pairwise (· ≤ ·)) : decide (ns = [0, 0, 0, 1]) = isU kk := by
  unfold isU
  by_cases h : kk.isPerm [0, 0, 0, 1] = true
  · rw [h]
    have h2 : kk.Perm [0, 0, 0, 1] := List.isPerm_iff.mp h
    have e : ns = [0, 0, 0, 1] := List.Perm.eq_of_pairwise (le := fun a b => a ≤ b) (fun a b _ _ h1 h2 => Int.le_antisymm h1 h2) hs (by decide) (hp.trans h2)
    rw [e]
    rfl
  · have h3 : kk.isPerm [0, 0, 0, 1] = false := by simpa using h
    rw [h3]
    refine decide_eq_false fun e => h (List.isPerm_iff.mpr ?_)
    rw [← e]
    exact hp.symm
theorem first_one : ∀ {kk : List Int}, (1 : Int) ∈ kk → ∃ j : Nat, kk[j]? = some 1 ∧ ∀ (m : Nat) (z : Int), m < j → kk[m]? = some z → z ≠ 1
  | a :: kk, h => by
    by_cases ha : a = 1
    · subst ha
      exact ⟨0, rfl, fun m _ hm => absurd hm (Nat.not_lt_zero _)⟩
    · obtain ⟨j, h1, h2⟩ := first_one (kk := kk) (by
        rcases List.mem_cons.mp h with e | h
        · exact absurd e.symm ha
        · exact h)
      refine ⟨j + 1, by simpa using h1, fun m z hm hz => ?_⟩
      match m, hm, hz with
      | 0, _, hz =>
        cases hz
        exact ha
      | m + 1, hm, hz => exact h2 m z (by omega) (by simpa using hz)
theorem unit_one {kk : List Int} (h : isU kk = true) : (1 : Int) ∈ kk := by
  have h2 : kk.Perm [0, 0, 0, 1] := List.isPerm_iff.mp h
  exact h2.mem_iff.mpr (by simp)
theorem eig_len (F : Fo) (p : Ci) : (eig F p).length = F.length := by simp [eig]
theorem stp_len (kk : List Int) (j : Nat) : (stp kk j).length = 4 := by simp [stp]
theorem low_lt {kk : List Int} {j : Nat} (h : j ∈ low kk) : j < 4 := by
  unfold low at h
  have := (List.mem_filter.mp h).1
  simp at this
  omega
theorem getD_at {kk : List Int} {i : Nat} (h : i < kk.length) : (iv kk)[i]? = some (V.int (kk.getD i 0)) := by
  unfold iv
  rw [List.getElem?_map, List.getElem?_eq_getElem h, List.getD_eq_getElem?_getD, List.getElem?_eq_getElem h]
  rfl
theorem r4_at {i : Nat} (h : i < 4) : ([0, 1, 2, 3] : List Nat)[i]? = some i := by
  match i, h with
  | 0, _ => rfl
  | 1, _ => rfl
  | 2, _ => rfl
  | 3, _ => rfl
theorem filter_step {f : Nat → Bool} {i : Nat} (h : i < 4) : (([0, 1, 2, 3] : List Nat).take (i + 1)).filter f = (([0, 1, 2, 3] : List Nat).take i).filter f ++ (if f i = true then [i] else []) := by
  rw [take_succ_at (r4_at h), List.filter_append]
  cases hf : f i with
  | true => simp [hf]
  | false => simp [hf]
theorem at_d {kk : List Int} {i : Nat} (h : i < kk.length) : atI (iv kk) (i : Nat) = some (V.int (kk.getD i 0)) := atI_nat (getD_at h)
theorem iv_len (ns : List Int) : (iv ns).length = ns.length := by simp [iv]
section
variable {P : Program} {w : World} {K : PySem.W.Frag} {mg : Str → Option Value} {base : Heap}
/-! ### _law_address -/
def sp_lAddress : Sp := fun vs H Q _ => ∃ v u F p, vs = [v, u] ∧ LisAt H v F ∧ F.length = 4 ∧ CiAt H u p ∧ sm p = true ∧ ∀ r H', Same H H' → (addr F p = true → ∃ a, r = .ref a) → (addr F p = false → r = .non) → Q r H'
abbrev N_lAddress : List Str := ["_law_four_here", "_law_circle", "_law_eighths_here", "_law_one", "_law_k", "_law_word_here", "_law_turn", "_law_j", "_law_low", "_law_i"]
theorem sc_lAddress : FnScope N_lAddress ["_law_four_here", "_law_circle"] (defScope s_lAddress) := ⟨rfl, rfl, rfl, by decide +kernel, rfl, by decide +kernel, by decide +kernel⟩
theorem ok_lAddress (T : Txt K mg) : FnOk P w K mg base CX0 3 T.f_lAddress T.d_lAddress ["_law_four_here", "_law_circle"] sp_lAddress := by
  refine T.F_lAddress.ok sc_lAddress (fun vs H Q E h => ?_) (fun cdv A outer s H vs Q E hr h => ?_)
  · obtain ⟨v, u, F, p, rfl, _⟩ := h
    rfl
  · obtain ⟨v, u, F, p, rfl, hv, hF, hu, hp, k⟩ := h
    refine ⟨_, pss_cons (ps_set (i := 2) sc_lAddress.nd rfl (.inl rfl) (pe_call (ok_lEighths T) hr (by rfl) T.g_lEighths T.F_lEighths.kp T.y_lEighths .nil pass0 (pa_cons (pv 0) (pa_cons (pv 1) pa_nil)))) <|
      pss_cons (ps_for PassesOwn.never rfl (pi_list (pv 2)) (pg_name (i := 3) sc_lAddress.nd rfl (.inl rfl)) <| pss_one <|
        ps_if (pt_cmpR op_gt (pe_op op_mod (pe_callTy call_int1 (by rfl) T.b_int (by decide +kernel) (pa_cons (pv 3) pa_nil)) pe_int) pe_int (nomark _)) (pss_one (ps_ret pe_non)) pss_nil) <|
      pss_cons (ps_set (i := 4) sc_lAddress.nd rfl (.inr rfl) (pe_lc (own := [("_law_one", 3)]) (g := gName 3) (tt := tYes) rfl sc_lAddress.nd (pi_list (pv 2)) (blkOk_by (N := N_lAddress) (sc := defScope s_lAddress) (by decide +kernel))
          (fun _ _ _ _ _ => pg_name (i := 3) sc_lAddress.nd rfl (Or.inl rfl)) (fun _ _ _ _ _ => pts_nil)
          (fun _ _ _ _ _ => pe_callTy call_int1 (by rfl) T.b_int (by decide +kernel) (pa_cons (pe_op op_fdiv (pv 3) pe_int) pa_nil)))) <|
      pss_cons (ps_set (i := 5) sc_lAddress.nd rfl (.inl rfl) (pe_tup pa_nil)) <|
      pss_cons (ps_for PassesOwn.never rfl (pi_range1 (by rfl) T.b_range (pa_cons pe_int pa_nil)) (pg_name (i := 6) sc_lAddress.nd rfl (.inl rfl)) <|
        pss_cons (ps_if (pt_cmpR (op_eqD hr.units) (pe_callB cr_sorted (by rfl) T.b_sorted (by decide +kernel) (pa_cons (pv 4) pa_nil)) (pe_lst (pa_cons pe_int (pa_cons pe_int (pa_cons pe_int (pa_cons pe_int pa_nil))))) (nomark _))
          (pss_one <| ps_ret <| pe_tup <| pa_cons (pv 5) <| pa_cons (pe_op op_add (pe_bm PySem.F.plainAttrs_list PySem.F.slot_list_index PySem.F.type_list_index mt_index (pv 4) (pa_cons pe_int pa_nil)) pe_int) pa_nil) pss_nil) <|
        pss_cons (ps_setLc (i := 8) (own := [("_law_j", 7)]) (g := gName 7) rfl sc_lAddress.nd rfl rfl (sw_true rfl rfl rfl (by decide +kernel)) (pi_range1 (by rfl) T.b_range (pa_cons pe_int pa_nil)) (blkOk_by (N := N_lAddress) (sc := defScope s_lAddress) (by decide +kernel))
            (fun _ _ _ _ _ => pg_name (i := 7) sc_lAddress.nd rfl (Or.inl rfl))
            (fun _ _ _ _ _ => pts_one (pt_cmpR op_lt (pe_ix (r := rIxL K) ix_list (pv 4) (pv 7) (fun _ _ => rfl)) pe_int (nomark _)))
            (fun _ _ _ _ _ => pv 7)) <|
        pss_cons (ps_if (PW.pt (pw_or (pt_cmpR op_ne (pe_callB call_len_seq (by rfl) T.b_len PySem.boot_len (pa_cons (pv 8) pa_nil)) pe_int (nomark _)) (pw_or1 (pt_cmpR op_le (pe_callB (cr_sum rfl) (by rfl) T.b_sum (by decide +kernel) (pa_cons (pv 4) pa_nil)) pe_int (nomark _)))))
          (pss_one (ps_ret pe_non)) pss_nil) <|
        pss_cons (ps_set (i := 7) sc_lAddress.nd rfl (.inr rfl) (pe_ix ix_list (pv 8) pe_int (fun _ _ => rfl))) <|
        pss_cons (ps_set (i := 4) sc_lAddress.nd rfl (.inr rfl) (pe_lc (own := [("_law_i", 9)]) (g := gName 9) (tt := tYes) rfl sc_lAddress.nd (pi_range1 (by rfl) T.b_range (pa_cons pe_int pa_nil)) (blkOk_by (N := N_lAddress) (sc := defScope s_lAddress) (by decide +kernel))
          (fun _ _ _ _ _ => pg_name (i := 9) sc_lAddress.nd rfl (Or.inl rfl)) (fun _ _ _ _ _ => pts_nil)
          (fun _ _ _ _ _ => pe_ifExp (pt_cmpR op_ne (pv 9) (pv 7) (nomark _)) (pe_op op_add (pe_ix (r := rIxL K) ix_list (pv 4) (pv 9) (fun _ _ => rfl)) (pe_op op_mul pe_int (pe_ix (r := rIxL K) ix_list (pv 4) (pv 7) (fun _ _ => rfl)))) (pe_un un_neg (pe_ix (r := rIxL K) ix_list (pv 4) (pv 7) (fun _ _ => rfl)))))) <|
        pss_one <| ps_set (i := 5) sc_lAddress.nd rfl (.inl rfl) (pe_op op_catA (pv 5) (pe_tup (pa_cons (pe_op op_add (pv 7) pe_int) pa_nil)))) <|
      pss_one (ps_ret pe_non), ?_⟩
    have he4 : (eig F p).length = 4 := by rw [eig_len, hF]
    refine ⟨_, rfl, _, rfl, v, u, F, p, rfl, hv, Nat.le_of_eq hF, hu, hp, fun el H1 s1 e1 => ?_⟩
    -- no rest
    refine ⟨_, rfl, el, rfl, ⟨_, SqL.of e1⟩, for_it (walk_list (K := K) (a := el) (xs := iv (eig F p))) (fun i σ H' => H' = H1 ∧ (∃ x, σ = [some v, some u, some (.ref el), x, none, none, none, none, none, none]) ∧ ∀ (j : Nat) (e : Int), j < i → (eig F p)[j]? = some e → ¬ 0 < e % 8)
      ⟨rfl, ⟨_, rfl⟩, fun j _ hj => absurd hj (Nat.not_lt_zero _)⟩ (fun i σ H' _ g => by rw [g.1]; exact SqL.of e1) ?_ ?_⟩
    · rintro i x σ H2 H3 hi ⟨rfl, ⟨x0, rfl⟩, hno⟩ ⟨rfl, hx⟩
      unfold iv at hx
      rw [List.getElem?_map] at hx
      obtain ⟨d, hd, e⟩ := Option.map_eq_some_iff.mp hx
      subst e
      refine ⟨_, rfl, .inl ⟨_, rfl, _, _, rfl, rfl, (by show (0 : Int) < 8; decide), _, _, rfl, rfl, _, rfl, ?_⟩⟩
      refine ite2 (fun h => ?_) (fun h => ?_)
      · have h' : 0 < d % 8 := of_decide_eq_true h
        have ea : addr F p = false := by
          unfold addr
          rw [if_pos]
          exact List.any_eq_true.mpr ⟨d, List.mem_of_getElem? hd, decide_eq_true h'⟩
        exact k .non _ s1 (fun h => by rw [ea] at h; cases h) (fun _ => rfl)
      · have h' : ¬ 0 < d % 8 := fun q => h (decide_eq_true q)
        refine ⟨rfl, ⟨_, rfl⟩, fun j e hj he => ?_⟩
        by_cases hji : j = i
        · subst hji
          rw [hd] at he
          cases he
          exact h'
        · exact hno j e (by omega) he
    · rintro σ H2 ⟨rfl, ⟨x0, rfl⟩, hno⟩
      have ea : addr F p = addrGo 2000 ((eig F p).map (· / 8)) := by
        unfold addr
        rw [if_neg]
        intro h
        obtain ⟨d, hd, h2⟩ := List.any_eq_true.mp h
        obtain ⟨j, hj, e⟩ := List.mem_iff_getElem.mp hd
        exact hno j d (by rw [iv_len]; exact hj) (by rw [← e]; exact List.getElem?_eq_getElem hj) (of_decide_eq_true h2)
      -- k
      refine ⟨_, rfl, el, rfl, ⟨_, SqL.of e1⟩, fun D hD => lc_it (walk_list (K := K) (a := el) (xs := iv (eig F p))) (Gr H2 D fun i acc _ => acc = iv (((eig F p).take i).map (· / 8))) (Gr.start hD rfl) (fun i H' _ g => SqL.of (g.1 _ _ e1)) ?_ ?_⟩
      · rintro i x H3 H4 hi ⟨s3, acc, e3, l3, rfl⟩ ⟨rfl, hx⟩
        rw [iv_len] at hi
        unfold iv at hx
        rw [List.getElem?_map] at hx
        obtain ⟨d, hd, e⟩ := Option.map_eq_some_iff.mp hx
        subst e
        refine ⟨rfl, tYes_if ?_⟩
        refine ⟨_, rfl, _, _, rfl, rfl, ⟨by decide, by decide⟩, .inl ⟨_, rfl, ?_⟩⟩
        refine Gr.push hD (by omega) s3 e3 l3 (Same.refl _) ?_
        rw [take_succ_at hd, List.map_append]
        exact (iv_snoc _ _).symm
      · rintro H3 ⟨s3, acc, e3, l3, rfl⟩
        rw [iv_len, List.take_length] at e3
        generalize hk0 : (eig F p).map (· / 8) = k0 at e3 ea
        have hk0l : k0.length = 4 := by
          rw [← hk0, List.length_map, he4]
        refine ⟨Nat.zero_le _, fun t0 ht0 => ?_⟩
        have s4 := same_upd (o := .tup []) ht0
        have e4 := s4 _ _ e3
        have et : (upd H3 t0 (.tup [])) t0 = some (.tup []) := upd_same
        generalize upd H3 t0 (.tup []) = H4 at s4 e4 et
        have s14 : Same H H4 := (s1.trans s3).trans s4
        -- the loop
        refine ⟨2000, rfl, by decide, by decide, for_it (walk_range (lo := 0) (n := ((2000 : Int)).toNat)) (fun i σ H' => ∃ (ka t : Addr) (z6 z7 z8 : Option V) (kk : List Int) (xs : List V), σ = [some v, some u, some (.ref el), x0, some (.ref ka), some (.ref t), z6, z7, z8, none] ∧ Same H H' ∧ H' ka = some (.lst (iv kk)) ∧ kk.length = 4 ∧ SqT K H' t xs ∧ xs.length ≤ i ∧ addr F p = addrGo (2000 - i) kk)
          ⟨D, t0, none, none, none, k0, [], rfl, s14, e4, hk0l, SqT.of et, Nat.le_refl _, ea⟩ (fun _ _ _ _ _ => trivial) ?_ ?_⟩
        · clear e3 l3 hk0 hk0l ea e4 et s4 s3 hno hD ht0 s14
          rintro i x σ H5 H6 hi ⟨ka, t, z6, z7, z8, kk, xs, rfl, s5, ek, hk4, hT, hxs, hgo⟩ ⟨rfl, rfl⟩
          have hi2 : i < 2000 := hi
          obtain ⟨n', hn'⟩ : ∃ n', 2000 - i = n' + 1 := ⟨1999 - i, by omega⟩
          rw [hn'] at hgo
          have hn2 : 2000 - (i + 1) = n' := by omega
          unfold addrGo at hgo
          -- sorted(k) == [0, 0, 0, 1]
          refine ⟨_, rfl, ka, kk, rfl, SqL.of ek, by omega, fun ns' p5 hpm hpw hp5 => ?_⟩
          have s6 := same_upd (o := .lst (iv ns')) hp5
          have e6 : (upd H6 p5 (.lst (iv ns'))) p5 = some (.lst (iv ns')) := upd_same
          show (4 ≤ sizeLine ∧ _)
          refine ⟨by decide, fun p6 hp6 => ?_⟩
          change (upd H6 p5 (.lst (iv ns'))) p6 = none at hp6
          have s7 := same_upd (o := .lst (iv [0, 0, 0, 1])) hp6
          have e7 : (upd (upd H6 p5 (.lst (iv ns'))) p6 (.lst (iv [0, 0, 0, 1]))) p6 = some (.lst (iv [0, 0, 0, 1])) := upd_same
          have e67 := s7 _ _ e6
          have s57 : Same H6 (upd (upd H6 p5 (.lst (List.map V.int ns'))) p6 (.lst [V.int 0, V.int 0, V.int 0, V.int 1])) := s6.trans s7
          refine ⟨.list (dI ns'), .list (dI [0, 0, 0, 1]), .lst (SqL.of e67) (dpAll_iv ns'), .lst (SqL.of e7) (dpAll_iv _), dI_shaped _, dI_shaped _, _, rfl, ?_⟩
          rw [dI_eqvL, unit_iff hpm hpw]
          generalize upd (upd H6 p5 (.lst (List.map V.int ns'))) p6 (.lst [V.int 0, V.int 0, V.int 0, V.int 1]) = H7 at s57 ⊢
          clear e67 e7 s7 hp6 e6 s6 hp5
          have s7 : Same H H7 := s5.trans s57
          have ek7 := s57 _ _ ek
          have hT7 : SqT K H7 t xs := sqT s57 hT
          by_cases hU : isU kk = true
          · rw [hU]
            rw [if_pos hU] at hgo
            refine iteT ?_
            obtain ⟨j, hj, hjno⟩ := first_one (unit_one hU)
            refine ⟨_, rfl, _, rfl, .inl ⟨rfl, _, SqL.of ek7⟩, ka, iv kk, .int 1, j, .int 1, rfl, rfl, SqL.of ek7, rfl, List.all_eq_true.mpr fun z hz => ?_, by unfold iv; rw [List.getElem?_map, hj]; rfl, rfl, fun m z hm hz => ?_, _, _, rfl, rfl, by show 2 ≤ sizeLine; decide, fun tr htr => ?_⟩
            · obtain ⟨e, _, rfl⟩ := List.mem_map.mp hz
              rfl
            · unfold iv at hz
              rw [List.getElem?_map] at hz
              obtain ⟨e, he, rfl⟩ := Option.map_eq_some_iff.mp hz
              have := hjno m e hm he
              show (e == 1) = false
              exact beq_eq_false_iff_ne.mpr this
            · exact k _ _ (s7.trans (same_upd htr)) (fun _ => ⟨tr, rfl⟩) (fun h => by rw [hgo] at h; cases h)
          · have hU' : isU kk = false := by simpa using hU
            rw [hU']
            rw [if_neg hU] at hgo
            refine iteF ?_
            -- low
            refine ⟨4, rfl, by decide, by decide, fun D8 hD8 => lc_it (walk_range (lo := 0) (n := 4)) (Gr H7 D8 fun i acc _ => acc = wv ((([0, 1, 2, 3] : List Nat).take i).filter fun j => decide (kk.getD j 0 < 0))) (Gr.start hD8 rfl) (fun _ _ _ _ => trivial) ?_ ?_⟩
            · rintro m x H8 H9 hm ⟨s8, acc, e8, l8, rfl⟩ ⟨rfl, rfl⟩
              have hm4 : m < 4 := hm
              have eat : atI (iv kk) (0 + (m : Nat)) = some (V.int (kk.getD m 0)) := by
                rw [Int.zero_add]
                exact at_d (by omega)
              have efs := filter_step (f := fun j => decide (kk.getD j 0 < 0)) hm4
              refine ⟨rfl, _, rfl, _, rfl, ka, _, _, _, rfl, rfl, SqL.of (s8 _ _ ek7), eat, _, _, rfl, rfl, _, rfl, ?_⟩
              refine ite2 (fun h => ?_) (fun h => ?_)
              · refine ⟨_, rfl, ?_⟩
                refine Gr.push hD8 (by omega) s8 e8 l8 (Same.refl _) ?_
                rw [efs, if_pos h, wv_snoc]
                dsimp only
                rw [Int.zero_add]
              · refine Gr.keep s8 e8 l8 (Same.refl _) ?_
                rw [efs, if_neg h, List.append_nil]
            · rintro H8 ⟨s8, acc, e8, l8, rfl⟩
              have el : (([0, 1, 2, 3] : List Nat).take 4).filter (fun j => decide (kk.getD j 0 < 0)) = low kk := rfl
              rw [el] at e8 l8
              have s78 : Same H H8 := s7.trans s8
              have ek8 := s8 _ _ ek7
              have hT8 : SqT K H8 t xs := sqT s8 hT7
              have elen : decide (V.int ((wv (low kk)).length : Nat) = V.int 1) = decide ((low kk).length = 1) := by
                rw [dec_int', wv_len]
                by_cases h : (low kk).length = 1
                · rw [h]
                  rfl
                · rw [decide_eq_false h, decide_eq_false (by omega)]
              refine ⟨_, rfl, D8, _, rfl, .inl (SqL.of e8), rfl, _, rfl, ?_⟩
              rw [elen]
              have hlow : ∀ j ∈ low kk, j < 4 := fun j hj => low_lt hj
              cases hl : low kk with
              | nil =>
                rw [hl] at hgo
                dsimp only at hgo
                refine iteT (iteT ?_)
                exact k .non H8 s78 (fun h => by rw [hgo] at h; cases h) (fun _ => rfl)
              | cons j r =>
                cases r with
                | cons b r =>
                  rw [hl] at hgo
                  dsimp only at hgo
                  have : decide ((j :: b :: r).length = 1) = false := decide_eq_false (by simp)
                  rw [this]
                  refine iteT (iteT ?_)
                  exact k .non H8 s78 (fun h => by rw [hgo] at h; cases h) (fun _ => rfl)
                | nil =>
                  rw [hl] at hgo hlow e8
                  dsimp only at hgo
                  have hj4 : j < 4 := hlow j List.mem_cons_self
                  refine iteF ?_
                  refine ⟨_, rfl, ka, kk, rfl, SqL.of ek8, _, _, rfl, rfl, _, rfl, ?_⟩
                  by_cases hsum : kk.sum ≤ 1
                  · rw [if_pos hsum] at hgo
                    rw [decide_eq_true hsum]
                    refine iteT ?_
                    exact k .non H8 s78 (fun h => by rw [hgo] at h; cases h) (fun _ => rfl)
                  · rw [if_neg hsum] at hgo
                    rw [decide_eq_false hsum]
                    refine iteF ?_
                    -- j = low[0]
                    refine ⟨_, rfl, D8, _, _, _, rfl, rfl, SqL.of e8, atI_nat (j := 0) rfl, ?_⟩
                    -- k
                    refine ⟨4, rfl, by decide, by decide, fun D9 hD9 => lc_it (walk_range (lo := 0) (n := 4)) (Gr H8 D9 fun i acc _ => acc = iv ((([0, 1, 2, 3] : List Nat).take i).map fun i => if i ≠ j then kk.getD i 0 + 2 * kk.getD j 0 else - kk.getD j 0)) (Gr.start hD9 rfl) (fun _ _ _ _ => trivial) ?_ ?_⟩
                    · rintro m x H9 H10 hm ⟨s9, acc, e9, l9, rfl⟩ ⟨rfl, rfl⟩
                      have hm4 : m < 4 := hm
                      have eat : atI (iv kk) (0 + (m : Nat)) = some (V.int (kk.getD m 0)) := by
                        rw [Int.zero_add]
                        exact at_d (by omega)
                      have eatj : atI (iv kk) (j : Nat) = some (V.int (kk.getD j 0)) := at_d (by omega)
                      have hLk := SqL.of (K := K) (s9 _ _ ek8)
                      refine ⟨rfl, tYes_if ?_⟩
                      refine ⟨_, rfl, _, rfl, rfl, _, rfl, ?_⟩
                      have ed : decide (V.int (0 + (m : Nat)) = V.int (j : Nat)) = decide (m = j) := by
                        rw [dec_int']
                        by_cases h : m = j
                        · rw [decide_eq_true h, decide_eq_true (by omega)]
                        · rw [decide_eq_false h, decide_eq_false (by omega)]
                      rw [ed]
                      by_cases hmj : m = j
                      · rw [decide_eq_true hmj]
                        refine iteF ?_
                        refine ⟨_, rfl, _, rfl, ka, _, _, _, rfl, rfl, hLk, eatj, _, rfl, ?_⟩
                        refine Gr.push hD9 (by omega) s9 e9 l9 (Same.refl _) ?_
                        rw [take_succ_at (r4_at hm4), List.map_append, List.map_singleton, iv_snoc, if_neg (fun h => h hmj)]
                      · rw [decide_eq_false hmj]
                        refine iteT ?_
                        refine ⟨_, rfl, _, rfl, ka, _, _, _, rfl, rfl, hLk, eat, _, rfl, _, rfl, ka, _, _, _, rfl, rfl, hLk, eatj, _, _, rfl, rfl, mul2 _, _, _, rfl, rfl, ?_⟩
                        refine Gr.push hD9 (by omega) s9 e9 l9 (Same.refl _) ?_
                        rw [take_succ_at (r4_at hm4), List.map_append, List.map_singleton, iv_snoc, if_pos hmj]
                    · rintro H9 ⟨s9, acc, e9, l9, rfl⟩
                      have e9' : H9 D9 = some (.lst (iv (stp kk j))) := e9
                      have hT9 : SqT K H9 t xs := sqT s9 hT8
                      have s79 : Same H H9 := s78.trans s9
                      refine ⟨_, rfl, _, rfl, _, _, rfl, rfl, by show 1 ≤ sizeLine; decide, fun tq htq => ?_⟩
                      have s10 := same_upd (o := .tup [.int ((j : Nat) + 1)]) htq
                      have e10 : (upd H9 tq (.tup [.int ((j : Nat) + 1)])) tq = some (.tup [.int ((j : Nat) + 1)]) := upd_same
                      generalize upd H9 tq (.tup [.int ((j : Nat) + 1)]) = H10 at s10 e10
                      refine ⟨t, tq, xs, _, rfl, rfl, sqT s10 hT9, SqT.of e10, Nat.le_trans (m := 3000) (by simp; omega) (by decide), fun hx0 => ?_, (fun _ h => by cases h), fun _ _ tr htr => ?_⟩
                      · exact ⟨D9, tq, _, _, _, stp kk j, _, rfl, s79.trans s10, s10 _ _ e9', stp_len _ _, SqT.of e10, by simp, by rw [hn2]; exact hgo⟩
                      · have s11 := same_upd (o := .tup (xs ++ [.int ((j : Nat) + 1)])) htr
                        exact ⟨D9, tr, _, _, _, stp kk j, _, rfl, (s79.trans s10).trans s11, s11 _ _ (s10 _ _ e9'), stp_len _ _, SqT.of upd_same, by simp; omega, by rw [hn2]; exact hgo⟩
        · rintro σ H5 ⟨ka, t, z6, z7, z8, kk, xs, rfl, s5, ek, hk4, hT, hxs, hgo⟩
          have : addr F p = false := hgo
          exact k .non H5 s5 (fun h => by rw [this] at h; cases h) (fun _ => rfl)
end
end K51
/-! K51PA: the plain law, what is decided. -/
namespace K51
theorem d_roots : ∀ R ∈ roots, (L9 R).Nodup ∧ (L9 R).length ≤ 60 ∧ (∀ c ∈ L9 R, c.b ≠ 0) ∧ R.length = 4 := by decide +kernel
theorem d_run : ∀ R ∈ roots, ∀ R' ∈ [R, exch R 4], strip R' = false ∧ ∀ m ∈ ([1, 2, 3, 4, 5, 6, 7, 8, 9] : List Int), ((srun m 100 (sstart m R') [(R', 0)]).map fun res => res.isPerm ((L9 R).filter fun c => decide (c.b ≤ m))) = some true := by decide +kernel
theorem d_four : ∀ R ∈ roots, ∀ w ∈ words, okF (at4 R w) = true ∧ ((wd 8 (at4 R w)).map fun p => decide (p.2 ∈ [R, exch R 4])) = some true := by decide +kernel
end K51
/-! K51PB: the plain law, each told circle has an address. -/
namespace K51
/-- p lies in the grid -/
def inGrid (p : Ci) : Bool := decide (-2 * p.b - 2 ≤ p.x) && decide (p.x ≤ 2 * p.b + 2) && decide (-2 * p.b - 2 ≤ p.y) && decide (p.y ≤ 2 * p.b + 2) && decide ((p.x * p.x + p.y * p.y - 1) % p.b = 0) && decide (p.c = (p.x * p.x + p.y * p.y - 1) / p.b)
theorem d_grid : ∀ R ∈ roots, ∀ p ∈ L9 R, 1 ≤ p.b → inGrid p = true := by decide +kernel
theorem d_addr : ∀ R ∈ roots, ∀ p ∈ L9 R, 1 ≤ p.b → ∀ w ∈ words, addr (at4 R w) p = true := by decide +kernel
end K51
/-! K51PC: the plain law, the tree of all fours. -/
namespace K51
def gd (G : Fo) (k : Nat) : Bool :=
  match G with
  | [p, q, r, s] =>
    match k with
    | 1 => decide (10 ≤ p.b) && decide (q.b + r.b + s.b ≤ p.b) && decide (0 ≤ q.b + r.b) && decide (0 ≤ q.b + s.b) && decide (0 ≤ r.b + s.b)
    | 2 => decide (10 ≤ q.b) && decide (p.b + r.b + s.b ≤ q.b) && decide (0 ≤ p.b + r.b) && decide (0 ≤ p.b + s.b) && decide (0 ≤ r.b + s.b)
    | 3 => decide (10 ≤ r.b) && decide (q.b + p.b + s.b ≤ r.b) && decide (0 ≤ q.b + p.b) && decide (0 ≤ q.b + s.b) && decide (0 ≤ p.b + s.b)
    | 4 => decide (10 ≤ s.b) && decide (q.b + r.b + p.b ≤ s.b) && decide (0 ≤ q.b + r.b) && decide (0 ≤ q.b + p.b) && decide (0 ≤ r.b + p.b)
    | _ => false
  | _ => false
def chk (L : List Ci) : Nat → Fo → Nat → Bool
  | 0, _, _ => false
  | n + 1, G, last => ([1, 2, 3, 4] : List Nat).all fun k => decide (k = last) || (if (oth G k).b ≤ 9 then decide (oth G k ∈ L) && chk L n (exch G k) k else gd (exch G k) k)
theorem d_chk : ∀ R ∈ roots, chk (L9 R) 12 R 0 = true ∧ ∀ p ∈ R, p.b ≤ 9 → p ∈ L9 R := by decide +kernel
def four (k : Nat) : Prop := k = 1 ∨ k = 2 ∨ k = 3 ∨ k = 4
def low9 (L : List Ci) (G : Fo) : Prop := ∀ p ∈ G, p.b ≤ 9 → p ∈ L
def redW : Nat → List Nat → Prop
  | _, [] => True
  | last, k :: ks => four k ∧ k ≠ last ∧ redW k ks
theorem len4 {G : Fo} (h : G.length = 4) : ∃ p q r s, G = [p, q, r, s] := by
  match G, h with
  | [p, q, r, s], _ => exact ⟨p, q, r, s, rfl⟩
theorem exch_len4 {G : Fo} {k : Nat} (h : G.length = 4) (hk : four k) : (exch G k).length = 4 := by
  obtain ⟨p, q, r, s, rfl⟩ := len4 h
  rcases hk with rfl | rfl | rfl | rfl <;> rfl
theorem exch_exch {G : Fo} {k : Nat} (h : G.length = 4) (hk : four k) : exch (exch G k) k = G := by
  obtain ⟨⟨a1, a2, a3, a4⟩, ⟨b1, b2, b3, b4⟩, ⟨c1, c2, c3, c4⟩, ⟨d1, d2, d3, d4⟩, rfl⟩ := len4 h
  rcases hk with rfl | rfl | rfl | rfl <;>
  · simp only [exch, oth, List.cons.injEq, Ci.mk.injEq, true_and, and_true]
    omega
theorem gd_step {G : Fo} {k j : Nat} (h : G.length = 4) (g : gd G k = true) (hj : four j) (hn : j ≠ k) : gd (exch G j) j = true ∧ 10 ≤ (oth G j).b := by
  obtain ⟨⟨a1, a2, a3, a4⟩, ⟨b1, b2, b3, b4⟩, ⟨c1, c2, c3, c4⟩, ⟨d1, d2, d3, d4⟩, rfl⟩ := len4 h
  have hk : four k := by
    match k, g with
    | 1, _ => exact .inl rfl
    | 2, _ => exact .inr (.inl rfl)
    | 3, _ => exact .inr (.inr (.inl rfl))
    | 4, _ => exact .inr (.inr (.inr rfl))
  rcases hk with rfl | rfl | rfl | rfl <;> rcases hj with rfl | rfl | rfl | rfl <;>
  first
  | exact absurd rfl hn
  | simp only [gd, exch, oth, Bool.and_eq_true, decide_eq_true_eq] at g ⊢
    omega
theorem low9_step {L : List Ci} {G : Fo} {k : Nat} (h : G.length = 4) (hk : four k) (l : low9 L G) (ho : (oth G k).b ≤ 9 → oth G k ∈ L) : low9 L (exch G k) := by
  obtain ⟨p, q, r, s, rfl⟩ := len4 h
  intro c hc hb
  have : c = oth [p, q, r, s] k ∨ c ∈ [p, q, r, s] := by
    rcases hk with rfl | rfl | rfl | rfl <;>
    · simp only [exch, List.mem_cons, List.not_mem_nil, or_false] at hc ⊢
      grind
  rcases this with rfl | hm
  · exact ho hb
  · exact l c hm hb
theorem gd_low {L : List Ci} : ∀ {w : List Nat} {G : Fo} {k : Nat}, G.length = 4 → gd G k = true → low9 L G → redW k w → low9 L (at4 G w)
  | [], _, _, _, _, l, _ => l
  | j :: ks, G, k, h, g, l, ⟨hj, hn, hr⟩ => by
    obtain ⟨g1, g2⟩ := gd_step h g hj hn
    exact gd_low (w := ks) (exch_len4 h hj) g1 (low9_step h hj l fun z => by omega) hr
theorem chk_low {L : List Ci} : ∀ {n : Nat} {w : List Nat} {G : Fo} {k : Nat}, G.length = 4 → chk L n G k = true → low9 L G → redW k w → low9 L (at4 G w)
  | 0, _, _, _, _, c, _, _ => by cases c
  | _ + 1, [], _, _, _, _, l, _ => l
  | n + 1, j :: ks, G, k, h, c, l, ⟨hj, hn, hr⟩ => by
    unfold chk at c
    have hm : j ∈ ([1, 2, 3, 4] : List Nat) := by rcases hj with rfl | rfl | rfl | rfl <;> decide
    have := List.all_eq_true.mp c j hm
    rw [decide_eq_false hn, Bool.false_or] at this
    by_cases hb : (oth G j).b ≤ 9
    · rw [if_pos hb, Bool.and_eq_true, decide_eq_true_eq] at this
      exact chk_low (w := ks) (exch_len4 h hj) this.2 (low9_step h hj l fun _ => this.1) hr
    · rw [if_neg hb] at this
      exact gd_low (w := ks) (exch_len4 h hj) this (low9_step h hj l fun z => absurd z hb) hr
theorem redW_zero {k : Nat} : ∀ {w : List Nat}, redW k w → redW 0 w
  | [], _ => trivial
  | j :: ks, ⟨a, b, c⟩ => ⟨a, by rcases a with rfl | rfl | rfl | rfl <;> decide, c⟩
theorem reduce : ∀ {w : List Nat} {G : Fo}, G.length = 4 → (∀ k ∈ w, four k) → ∃ w', redW 0 w' ∧ at4 G w' = at4 G w
  | [], _, _, _ => ⟨[], trivial, rfl⟩
  | k :: ks, G, h, hw => by
    have hk := hw k List.mem_cons_self
    obtain ⟨w', r, e⟩ := reduce (w := ks) (exch_len4 h hk) fun j hj => hw j (List.mem_cons_of_mem _ hj)
    have e' : at4 G (k :: ks) = at4 (exch G k) ks := rfl
    rw [e', ← e]
    cases w' with
    | nil => exact ⟨[k], ⟨hk, by rcases hk with rfl | rfl | rfl | rfl <;> decide, trivial⟩, rfl⟩
    | cons j js =>
      by_cases hj : j = k
      · subst hj
        refine ⟨js, redW_zero r.2.2, ?_⟩
        show at4 G js = at4 (exch (exch G j) j) js
        rw [exch_exch h hk]
      · exact ⟨k :: j :: js, ⟨hk, by rcases hk with rfl | rfl | rfl | rfl <;> decide, r.1, hj, r.2.2⟩, rfl⟩
theorem all_low {R : Fo} (hR : R ∈ roots) {w : List Nat} (hw : ∀ k ∈ w, four k) : ∀ p ∈ at4 R w, p.b ≤ 9 → p ∈ L9 R := by
  obtain ⟨h1, h2⟩ := d_chk R hR
  have h4 := (d_roots R hR).2.2.2
  obtain ⟨w', r, e⟩ := reduce h4 hw
  rw [← e]
  exact chk_low h4 h1 h2 r
end K51
/-! K51PD: the plain law, an address leads to a four. -/
namespace K51
def comb (k : List Int) (G : Fo) : Ci :=
  match k, G with
  | [a, b, c, d], [p, q, r, s] => ⟨a * p.b + b * q.b + c * r.b + d * s.b, a * p.c + b * q.c + c * r.c + d * s.c, a * p.x + b * q.x + c * r.x + d * s.x, a * p.y + b * q.y + c * r.y + d * s.y⟩
  | _, _ => ⟨0, 0, 0, 0⟩
theorem len4i {k : List Int} (h : k.length = 4) : ∃ a b c d, k = [a, b, c, d] := by
  match k, h with
  | [a, b, c, d], _ => exact ⟨a, b, c, d, rfl⟩
theorem comb_stp {k : List Int} {G : Fo} {j : Nat} (hk : k.length = 4) (hG : G.length = 4) (hj : j ∈ ([0, 1, 2, 3] : List Nat)) : comb (stp k j) (exch G (j + 1)) = comb k G := by
  obtain ⟨a, b, c, d, rfl⟩ := len4i hk
  obtain ⟨⟨a1, a2, a3, a4⟩, ⟨b1, b2, b3, b4⟩, ⟨c1, c2, c3, c4⟩, ⟨d1, d2, d3, d4⟩, rfl⟩ := len4 hG
  simp only [List.mem_cons, List.not_mem_nil, or_false] at hj
  rcases hj with rfl | rfl | rfl | rfl <;>
  · simp [comb, stp, exch, oth]
    grind
theorem stp_len4 (k : List Int) (j : Nat) : (stp k j).length = 4 := rfl
theorem unit_in {k : List Int} {G : Fo} (hk : k.length = 4) (hG : G.length = 4) (hu : isU k = true) : comb k G ∈ G := by
  obtain ⟨a, b, c, d, rfl⟩ := len4i hk
  obtain ⟨⟨a1, a2, a3, a4⟩, ⟨b1, b2, b3, b4⟩, ⟨c1, c2, c3, c4⟩, ⟨d1, d2, d3, d4⟩, rfl⟩ := len4 hG
  have hp : [a, b, c, d].Perm [0, 0, 0, 1] := List.isPerm_iff.mp hu
  have h0 := hp.count_eq 0
  have h1 := hp.count_eq 1
  have hm : ∀ z ∈ [a, b, c, d], z = 0 ∨ z = 1 := fun z hz => by
    have := hp.mem_iff.mp hz
    simpa using this
  have ha := hm a (by simp)
  have hb := hm b (by simp)
  have hc := hm c (by simp)
  have hd := hm d (by simp)
  rcases ha with rfl | rfl <;> rcases hb with rfl | rfl <;> rcases hc with rfl | rfl <;> rcases hd with rfl | rfl <;>
  first
  | exact absurd h1 (by decide)
  | simp [comb]
theorem addrGo_word : ∀ {n : Nat} {k : List Int} {G : Fo}, k.length = 4 → G.length = 4 → addrGo n k = true → ∃ w : List Nat, (∀ l ∈ w, four l) ∧ comb k G ∈ at4 G w
  | 0, _, _, _, _, h => by cases h
  | n + 1, k, G, hk, hG, h => by
    unfold addrGo at h
    by_cases hu : isU k = true
    · exact ⟨[], (fun l hl => by cases hl), unit_in hk hG hu⟩
    · rw [if_neg hu] at h
      split at h
      · rename_i j hl
        by_cases hs : k.sum ≤ 1
        · rw [if_pos hs] at h
          cases h
        · rw [if_neg hs] at h
          have hj : j ∈ ([0, 1, 2, 3] : List Nat) := by
            have : j ∈ low k := by rw [hl]; exact List.mem_cons_self
            exact (List.mem_filter.mp this).1
          have hf : four (j + 1) := by
            simp only [List.mem_cons, List.not_mem_nil, or_false] at hj
            unfold four
            omega
          obtain ⟨w, w1, w2⟩ := addrGo_word (n := n) (k := stp k j) (G := exch G (j + 1)) (stp_len4 k j) (exch_len4 hG hf) h
          rw [comb_stp hk hG hj] at w2
          refine ⟨(j + 1) :: w, fun l hl => ?_, w2⟩
          rcases List.mem_cons.mp hl with rfl | hl
          · exact hf
          · exact w1 l hl
      · cases h
/-- eight times a circle is its combination -/
def eight (G : Fo) : Prop := ∀ c : Ci, comb (eig G c) G = ⟨8 * c.b, 8 * c.c, 8 * c.x, 8 * c.y⟩
theorem eig_len4 {G : Fo} (h : G.length = 4) (c : Ci) : (eig G c).length = 4 := by
  obtain ⟨p, q, r, s, rfl⟩ := len4 h
  rfl
theorem eig_stp {G : Fo} {j : Nat} (h : G.length = 4) (hj : j ∈ ([0, 1, 2, 3] : List Nat)) (c : Ci) : eig (exch G (j + 1)) c = stp (eig G c) j := by
  obtain ⟨⟨a1, a2, a3, a4⟩, ⟨b1, b2, b3, b4⟩, ⟨c1, c2, c3, c4⟩, ⟨d1, d2, d3, d4⟩, rfl⟩ := len4 h
  simp only [List.mem_cons, List.not_mem_nil, or_false] at hj
  rcases hj with rfl | rfl | rfl | rfl <;>
  · simp [stp, exch, oth, eig, ldbl]
    grind
theorem eight_step {G : Fo} {k : Nat} (h : G.length = 4) (hk : four k) (e : eight G) : eight (exch G k) := by
  intro c
  obtain ⟨j, rfl, hj⟩ : ∃ j, k = j + 1 ∧ j ∈ ([0, 1, 2, 3] : List Nat) := by
    rcases hk with rfl | rfl | rfl | rfl
    · exact ⟨0, rfl, by decide⟩
    · exact ⟨1, rfl, by decide⟩
    · exact ⟨2, rfl, by decide⟩
    · exact ⟨3, rfl, by decide⟩
  rw [eig_stp h hj, comb_stp (eig_len4 h c) h hj]
  exact e c
theorem eight_at : ∀ {w : List Nat} {G : Fo}, G.length = 4 → (∀ l ∈ w, four l) → eight G → eight (at4 G w) ∧ (at4 G w).length = 4
  | [], _, h, _, e => ⟨e, h⟩
  | k :: ks, G, h, hw, e => by
    have hk := hw k List.mem_cons_self
    exact eight_at (w := ks) (G := exch G k) (exch_len4 h hk) (fun l hl => hw l (List.mem_cons_of_mem _ hl)) (eight_step h hk e)
theorem addr_word {G : Fo} {c : Ci} (h : G.length = 4) (e : eight G) (ha : addr G c = true) : ∃ w : List Nat, (∀ l ∈ w, four l) ∧ c ∈ at4 G w := by
  unfold addr at ha
  by_cases hg : ((eig G c).any fun e => decide (0 < e % 8)) = true
  · rw [if_pos hg] at ha
    cases ha
  · rw [if_neg hg] at ha
    have hl := eig_len4 h c
    obtain ⟨w, w1, w2⟩ := addrGo_word (G := G) (by rw [List.length_map]; exact hl) h ha
    have : comb ((eig G c).map (· / 8)) G = c := by
      have ec := e c
      obtain ⟨k1, k2, k3, k4, ek⟩ := len4i hl
      rw [ek] at hg ec ⊢
      obtain ⟨⟨a1, a2, a3, a4⟩, ⟨b1, b2, b3, b4⟩, ⟨c1, c2, c3, c4⟩, ⟨d1, d2, d3, d4⟩, rfl⟩ := len4 h
      obtain ⟨x1, x2, x3, x4⟩ := c
      simp only [List.any_cons, List.any_nil, Bool.or_false, Bool.or_eq_true, decide_eq_true_eq, not_or] at hg
      obtain ⟨g1, g2, g3, g4⟩ := hg
      obtain ⟨u1, rfl⟩ : ∃ u, k1 = 8 * u := ⟨k1 / 8, by omega⟩
      obtain ⟨u2, rfl⟩ : ∃ u, k2 = 8 * u := ⟨k2 / 8, by omega⟩
      obtain ⟨u3, rfl⟩ : ∃ u, k3 = 8 * u := ⟨k3 / 8, by omega⟩
      obtain ⟨u4, rfl⟩ : ∃ u, k4 = 8 * u := ⟨k4 / 8, by omega⟩
      have q : ∀ u : Int, 8 * u / 8 = u := fun u => by omega
      simp only [comb, List.map_cons, List.map_nil, q, Ci.mk.injEq, Int.mul_assoc] at ec ⊢
      omega
    rw [this] at w2
    exact ⟨w, w1, w2⟩
theorem eig_lin {G : Fo} (h : G.length = 4) (x1 x2 x3 x4 : Int) : comb (eig G ⟨x1, x2, x3, x4⟩) G =
    ⟨x1 * (comb (eig G ⟨1, 0, 0, 0⟩) G).b + x2 * (comb (eig G ⟨0, 1, 0, 0⟩) G).b + x3 * (comb (eig G ⟨0, 0, 1, 0⟩) G).b + x4 * (comb (eig G ⟨0, 0, 0, 1⟩) G).b,
     x1 * (comb (eig G ⟨1, 0, 0, 0⟩) G).c + x2 * (comb (eig G ⟨0, 1, 0, 0⟩) G).c + x3 * (comb (eig G ⟨0, 0, 1, 0⟩) G).c + x4 * (comb (eig G ⟨0, 0, 0, 1⟩) G).c,
     x1 * (comb (eig G ⟨1, 0, 0, 0⟩) G).x + x2 * (comb (eig G ⟨0, 1, 0, 0⟩) G).x + x3 * (comb (eig G ⟨0, 0, 1, 0⟩) G).x + x4 * (comb (eig G ⟨0, 0, 0, 1⟩) G).x,
     x1 * (comb (eig G ⟨1, 0, 0, 0⟩) G).y + x2 * (comb (eig G ⟨0, 1, 0, 0⟩) G).y + x3 * (comb (eig G ⟨0, 0, 1, 0⟩) G).y + x4 * (comb (eig G ⟨0, 0, 0, 1⟩) G).y⟩ := by
  obtain ⟨⟨a1, a2, a3, a4⟩, ⟨b1, b2, b3, b4⟩, ⟨c1, c2, c3, c4⟩, ⟨d1, d2, d3, d4⟩, rfl⟩ := len4 h
  simp only [comb, eig, ldbl, List.map_cons, List.map_nil, List.sum_cons, List.sum_nil, Ci.mk.injEq]
  refine ⟨?_, ?_, ?_, ?_⟩ <;> grind
theorem eight_unit : ∀ R ∈ roots, ∀ c ∈ ([⟨1, 0, 0, 0⟩, ⟨0, 1, 0, 0⟩, ⟨0, 0, 1, 0⟩, ⟨0, 0, 0, 1⟩] : List Ci), comb (eig R c) R = ⟨8 * c.b, 8 * c.c, 8 * c.x, 8 * c.y⟩ := by decide +kernel
theorem eight_roots : ∀ R ∈ roots, eight R := by
  rintro R hR ⟨x1, x2, x3, x4⟩
  have hh := eight_unit R hR
  rw [eig_lin ((d_roots R hR).2.2.2), hh ⟨1, 0, 0, 0⟩ (by simp), hh ⟨0, 1, 0, 0⟩ (by simp), hh ⟨0, 0, 1, 0⟩ (by simp), hh ⟨0, 0, 0, 1⟩ (by simp)]
  simp only [Ci.mk.injEq]
  omega
end K51
/-! K51PE: the plain law, the grid, and what is found there. -/
namespace K51
theorem mem_irange {lo x : Int} {n : Nat} : x ∈ irange lo n ↔ lo ≤ x ∧ x < lo + (n : Nat) := by
  unfold irange
  rw [List.mem_map]
  constructor
  · rintro ⟨i, hi, rfl⟩
    have := List.mem_range.mp hi
    omega
  · rintro ⟨h1, h2⟩
    exact ⟨(x - lo).toNat, List.mem_range.mpr (by omega), by omega⟩
theorem irange_nodup (lo : Int) (n : Nat) : (irange lo n).Nodup := by
  unfold irange List.Nodup
  rw [List.pairwise_map]
  exact (List.nodup_range (n := n)).imp fun hab e => hab (by omega)
theorem mem_row {b x : Int} {c : Ci} : c ∈ gridRow b x ↔ ∃ y, y ∈ irange (-2 * b - 2) (4 * b + 5).toNat ∧ (x * x + y * y - 1) % b = 0 ∧ c = ⟨b, (x * x + y * y - 1) / b, x, y⟩ := by
  unfold gridRow
  rw [List.mem_filterMap]
  constructor
  · rintro ⟨y, hy, h⟩
    split at h
    · rename_i h0
      cases h
      exact ⟨y, hy, h0, rfl⟩
    · cases h
  · rintro ⟨y, hy, h0, rfl⟩
    exact ⟨y, hy, if_pos h0⟩
theorem mem_grid {b : Int} {c : Ci} : c ∈ grid b ↔ ∃ x, x ∈ irange (-2 * b - 2) (4 * b + 5).toNat ∧ c ∈ gridRow b x := by
  unfold grid
  rw [List.mem_flatMap]
theorem grid_b {b : Int} {c : Ci} (h : c ∈ grid b) : c.b = b := by
  obtain ⟨x, hx, hr⟩ := mem_grid.mp h
  obtain ⟨y, hy, h0, rfl⟩ := mem_row.mp hr
  rfl
theorem grid_in {c : Ci} (h : inGrid c = true) (hb : 1 ≤ c.b) : c ∈ grid c.b := by
  unfold inGrid at h
  simp only [Bool.and_eq_true, decide_eq_true_eq] at h
  obtain ⟨⟨⟨⟨⟨h1, h2⟩, h3⟩, h4⟩, h5⟩, h6⟩ := h
  refine mem_grid.mpr ⟨c.x, mem_irange.mpr ⟨h1, by omega⟩, mem_row.mpr ⟨c.y, mem_irange.mpr ⟨h3, by omega⟩, h5, ?_⟩⟩
  obtain ⟨b, d, x, y⟩ := c
  simp only [Ci.mk.injEq, true_and, and_true]
  exact h6
theorem grid_nodup (b : Int) : (grid b).Nodup := by
  unfold grid List.Nodup
  rw [List.pairwise_flatMap]
  refine ⟨fun x hx => ?_, (irange_nodup _ _).imp fun hab c hc d hd e => ?_⟩
  · unfold gridRow
    refine List.Pairwise.filterMap _ (fun y z hyz c hc d hd e => ?_) (irange_nodup _ _)
    split at hc
    · split at hd
      · cases hc
        cases hd
        exact hyz (congrArg Ci.y e)
      · cases hd
    · cases hc
  · obtain ⟨y, _, _, rfl⟩ := mem_row.mp hc
    obtain ⟨z, _, _, rfl⟩ := mem_row.mp hd
    exact hab (congrArg Ci.x e)
theorem word_four : ∀ w ∈ words, ∀ l ∈ w, l = 1 ∨ l = 2 ∨ l = 3 ∨ l = 4 := by decide +kernel
theorem found_mem {R : Fo} (hR : R ∈ roots) {ws : List Nat} (hw : ws ∈ words) {b : Int} (h1 : 1 ≤ b) (h9 : b ≤ 9) (c : Ci) : c ∈ found (at4 R ws) b ↔ c ∈ L9 R ∧ c.b = b := by
  have h4 := (d_roots R hR).2.2.2
  have hf := word_four ws hw
  obtain ⟨he, hl⟩ := eight_at h4 hf (eight_roots R hR)
  unfold found
  rw [List.mem_filter]
  constructor
  · rintro ⟨g, ha⟩
    have hb := grid_b g
    obtain ⟨w, w1, w2⟩ := addr_word hl he ha
    have ea : at4 (at4 R ws) w = at4 R (ws ++ w) := (List.foldl_append ..).symm
    rw [ea] at w2
    exact ⟨all_low hR (fun k hk => (List.mem_append.mp hk).elim (hf k) (w1 k)) c w2 (by omega), hb⟩
  · rintro ⟨hc, rfl⟩
    exact ⟨grid_in (d_grid R hR c hc h1) h1, d_addr R hR c hc h1 ws hw⟩
theorem root_in {n : Int} {q : Nat} {f : Bool} (hn : n = 1 ∨ n = 2) (hq : q ≤ 3) : root n q f ∈ roots := by
  unfold roots
  refine List.mem_flatMap.mpr ⟨n, by rcases hn with rfl | rfl <;> decide, List.mem_flatMap.mpr ⟨q, ?_, List.mem_map.mpr ⟨f, by cases f <;> decide, rfl⟩⟩⟩
  match q, hq with
  | 0, _ => decide
  | 1, _ => decide
  | 2, _ => decide
  | 3, _ => decide
theorem word_in {k : Nat} {ws : List Nat} (hk : k ≤ 3) (hw : ws ∈ wordsN k) : ws ∈ words := by
  unfold words
  match k, hk, hw with
  | 0, _, h => simp [h]
  | 1, _, h => simp [h]
  | 2, _, h => simp [h]
  | 3, _, h => simp [h]
end K51
/-! K51P: the plain law. -/
namespace K51
open PySem L2
/-- what the law's run over the four F and the bound m asks -/
structure PlainOK (F : Fo) (m : Int) : Prop where
  ok : okF F = true
  run : ∃ w R res, wd 8 F = some (w, R) ∧ strip R = false ∧ srun m 100 (sstart m R) [(R, 0)] = some res ∧ ∀ told : List Ci, told.Perm res → told.Pairwise LeC →
    told.Nodup ∧ told.length ≤ 60 ∧ (∀ c ∈ F, c.b ≤ m → c ∈ told) ∧
    (∀ b : Int, 1 ≤ b → b ≤ m → ∀ fs : List Ci, fs.Perm (found F b) → fs.Pairwise LeC → fs = told.filter fun c => decide (c.b = b)) ∧
    ∀ c ∈ told, c.b ≤ m ∧ c.b ≠ 0
theorem ltI_self : ∀ a : List Int, ltI a a = false
  | [] => rfl
  | x :: r => by
    unfold ltI
    rw [ltI_self r]
    simp
theorem ltI_anti : ∀ {a b : List Int}, a.length = b.length → ltI a b = false → ltI b a = false → a = b
  | [], [], _, _, _ => rfl
  | [], _ :: _, h, _, _ => by cases h
  | _ :: _, [], h, _, _ => by cases h
  | x :: r, y :: t, h, h1, h2 => by
    unfold ltI at h1 h2
    simp only [Bool.or_eq_false_iff, Bool.and_eq_false_iff, Bool.not_eq_false', decide_eq_false_iff_not, decide_eq_true_eq] at h1 h2
    have e : x = y := by omega
    subst e
    have r1 : ltI r t = false := h1.2.resolve_left h1.1
    have r2 : ltI t r = false := h2.2.resolve_left h2.1
    rw [ltI_anti (by simpa using h) r1 r2]
theorem LeC.anti {p q : Ci} (h1 : LeC p q) (h2 : LeC q p) : p = q := by
  have := ltI_anti (a := il p) (b := il q) rfl h2 h1
  exact il_inj this
theorem plain_ok {n : Int} {q k : Nat} {f : Bool} {ws : List Nat} {m : Int} (hn : n = 1 ∨ n = 2) (hq : q ≤ 3) (hk : k ≤ 3) (hw : ws ∈ wordsN k) (hm : 1 ≤ m ∧ m ≤ 9) : PlainOK (at4 (root n q f) ws) m := by
  have hR : root n q f ∈ roots := root_in hn hq
  have hW : ws ∈ words := word_in hk hw
  generalize root n q f = R at hR
  obtain ⟨h1, h2⟩ := d_four R hR ws hW
  obtain ⟨n1, n2, n3, n4⟩ := d_roots R hR
  refine ⟨h1, ?_⟩
  cases hwd : wd 8 (at4 R ws) with
  | none =>
    rw [hwd] at h2
    cases h2
  | some p =>
    obtain ⟨w, R'⟩ := p
    rw [hwd] at h2
    have hR' : R' ∈ [R, exch R 4] := of_decide_eq_true (Option.some.inj h2)
    obtain ⟨s1, s2⟩ := d_run R hR R' hR'
    have hm9 : m ∈ ([1, 2, 3, 4, 5, 6, 7, 8, 9] : List Int) := by
      simp only [List.mem_cons, List.not_mem_nil, or_false]
      omega
    have h3 := s2 m hm9
    cases hr : srun m 100 (sstart m R') [(R', 0)] with
    | none =>
      rw [hr] at h3
      cases h3
    | some res =>
      rw [hr] at h3
      have hp : res.Perm ((L9 R).filter fun c => decide (c.b ≤ m)) := List.isPerm_iff.mp (Option.some.inj h3)
      refine ⟨w, R', res, rfl, s1, hr, fun told ht hpw => ?_⟩
      have hpt := ht.trans hp
      have hmem : ∀ c, c ∈ told ↔ c ∈ L9 R ∧ c.b ≤ m := fun c => by
        rw [hpt.mem_iff, List.mem_filter, decide_eq_true_eq]
      have hnd : told.Nodup := hpt.nodup_iff.mpr (List.Pairwise.filter _ n1)
      refine ⟨hnd, ?_, fun c hc hb => ?_, fun b hb1 hb2 fs hfs hfp => ?_, fun c hc => ?_⟩
      · rw [hpt.length_eq]
        exact Nat.le_trans (List.length_filter_le _ _) n2
      · exact (hmem c).mpr ⟨all_low hR (fun k hk => word_four ws hW k hk) c hc (by omega), hb⟩
      · have hf : (found (at4 R ws) b).Nodup := List.Pairwise.filter _ (grid_nodup b)
        have hfn : fs.Nodup := hfs.nodup_iff.mpr hf
        have hperm : fs.Perm (told.filter fun c => decide (c.b = b)) := by
          refine (List.perm_ext_iff_of_nodup hfn (List.Pairwise.filter _ hnd)).mpr fun c => ?_
          rw [hfs.mem_iff, found_mem hR hW hb1 (by omega), List.mem_filter, hmem, decide_eq_true_eq]
          constructor
          · rintro ⟨a, rfl⟩
            exact ⟨⟨a, hb2⟩, rfl⟩
          · rintro ⟨⟨a, _⟩, e⟩
            exact ⟨a, e⟩
        exact List.Perm.eq_of_pairwise (fun a c _ _ x y => LeC.anti x y) hfp (List.Pairwise.filter _ hpw) hperm
      · obtain ⟨a, b⟩ := (hmem c).mp hc
        exact ⟨b, n3 c a⟩
/-- small enough at every turn -/
theorem base_sm {n : Int} (hn : n = 1 ∨ n = 2) : ∀ p ∈ base n, sm p = true := by
  rcases hn with rfl | rfl <;> decide
theorem root0_all : ∀ n ∈ ([1, 2] : List Int), ∀ q ∈ ([0, 1, 2, 3] : List Nat), ∀ f ∈ [false, true], ∀ p ∈ root0 n q f, sm p = true ∧ (p.b.natAbs < 1000 ∧ p.c.natAbs < 1000 ∧ p.x.natAbs < 1000 ∧ p.y.natAbs < 1000) := by
  decide +kernel
theorem root0_sm {n : Int} {q : Nat} {f : Bool} (hn : n = 1 ∨ n = 2) (hq : q ≤ 3) : ∀ p ∈ root0 n q f, sm p = true ∧ (p.b.natAbs < 1000 ∧ p.c.natAbs < 1000 ∧ p.x.natAbs < 1000 ∧ p.y.natAbs < 1000) :=
  root0_all n (by rcases hn with rfl | rfl <;> decide) q (by match q, hq with | 0, _ => decide | 1, _ => decide | 2, _ => decide | 3, _ => decide) f (by cases f <;> decide)
theorem root0_shift : ∀ n ∈ ([1, 2] : List Int), ∀ q ∈ ([0, 1, 2, 3] : List Nat), ∀ f ∈ [false, true],
    (-((root0 n q f).getD 0 ⟨0, 0, 0, 0⟩).x * ((root0 n q f).getD 0 ⟨0, 0, 0, 0⟩).b).natAbs < 1000 ∧ (-((root0 n q f).getD 0 ⟨0, 0, 0, 0⟩).y * ((root0 n q f).getD 0 ⟨0, 0, 0, 0⟩).b).natAbs < 1000 := by
  decide +kernel
theorem root0_sh {n : Int} {q : Nat} {f : Bool} (hn : n = 1 ∨ n = 2) (hq : q ≤ 3) :
    (-((root0 n q f).getD 0 ⟨0, 0, 0, 0⟩).x * ((root0 n q f).getD 0 ⟨0, 0, 0, 0⟩).b).natAbs < 1000 ∧ (-((root0 n q f).getD 0 ⟨0, 0, 0, 0⟩).y * ((root0 n q f).getD 0 ⟨0, 0, 0, 0⟩).b).natAbs < 1000 :=
  root0_shift n (by rcases hn with rfl | rfl <;> decide) q (by match q, hq with | 0, _ => decide | 1, _ => decide | 2, _ => decide | 3, _ => decide) f (by cases f <;> decide)
theorem root0_len (n : Int) (q : Nat) (f : Bool) : (root0 n q f).length = 4 := rfl
theorem root_len (n : Int) (q : Nat) (f : Bool) : (root n q f).length = 4 := rfl
end K51
/-! K51L: the law. -/
namespace K51
open PySem L2
theorem cis_ks {H : Hp} : ∀ {ys : List V} {told : List Ci}, CisAt H ys told → ∃ ks : List (Addr × List Int), (ks.map fun p => V.ref p.1) = ys ∧ ks.map (·.2) = told.map il ∧ ∀ p ∈ ks, H p.1 = some (.tup (p.2.map V.int))
  | _, _, .nil => ⟨[], rfl, rfl, fun p hp => by cases hp⟩
  | _, _, .cons (a := v) (b := c) ⟨a, ea, ha⟩ t => by
    obtain ⟨ks, h1, h2, h3⟩ := cis_ks t
    subst ea
    refine ⟨(a, il c) :: ks, by rw [List.map_cons, h1], by rw [List.map_cons, h2]; rfl, fun p hp => ?_⟩
    rcases List.mem_cons.mp hp with rfl | hp
    · exact ha
    · exact h3 p hp
theorem nodup_map {α β : Type} {f : α → β} (hf : ∀ a b, f a = f b → a = b) {l : List α} (h : l.Nodup) : (l.map f).Nodup := by
  unfold List.Nodup at h ⊢
  rw [List.pairwise_map]
  exact h.imp fun hab e => hab (hf _ _ e)
theorem sub_len {α : Type} [DecidableEq α] : ∀ {xs ys : List α}, xs.Nodup → (∀ x ∈ xs, x ∈ ys) → xs.length ≤ ys.length
  | [], _, _, _ => Nat.zero_le _
  | x :: xs, ys, hn, h => by
    obtain ⟨h1, h2⟩ := List.nodup_cons.mp hn
    have hx := h x List.mem_cons_self
    have ih := sub_len (xs := xs) (ys := ys.erase x) h2 fun z hz => by
      have hne : z ≠ x := fun e => h1 (e ▸ hz)
      exact (List.mem_erase_of_ne hne).mpr (h z (List.mem_cons_of_mem _ hz))
    have hp : 0 < ys.length := List.length_pos_of_mem hx
    rw [List.length_erase_of_mem hx] at ih
    rw [List.length_cons]
    omega
theorem filter_flat {α β : Type} {p : β → Bool} {g : α → List β} : ∀ l : List α, (l.flatMap g).filter p = l.flatMap fun x => (g x).filter p
  | [] => rfl
  | x :: l => by
    rw [List.flatMap_cons, List.filter_append, filter_flat l, List.flatMap_cons]
def rowF (F : Fo) (b x : Int) : List Ci := (gridRow b x).filter (addr F)
theorem found_eq (F : Fo) (b : Int) : found F b = (irange (-2 * b - 2) (4 * b + 5).toNat).flatMap (rowF F b) := by
  unfold found grid
  rw [filter_flat]
  rfl
def cell (b x y : Int) : Option Ci := if (x * x + y * y - 1) % b = 0 then some ⟨b, (x * x + y * y - 1) / b, x, y⟩ else none
theorem rowF_eq (F : Fo) (b x : Int) : rowF F b x = ((irange (-2 * b - 2) (4 * b + 5).toNat).filterMap (cell b x)).filter (addr F) := rfl
theorem irange_at {lo : Int} {n i : Nat} (h : i < n) : (irange lo n)[i]? = some (lo + (i : Nat)) := by
  unfold irange
  rw [List.getElem?_map, List.getElem?_range h]
  rfl
theorem irange_len (lo : Int) (n : Nat) : (irange lo n).length = n := by
  unfold irange
  rw [List.length_map, List.length_range]
theorem cells_snoc {F : Fo} {b x lo : Int} {n j : Nat} (h : j < n) : (((irange lo n).take (j + 1)).filterMap (cell b x)).filter (addr F) =
    (((irange lo n).take j).filterMap (cell b x)).filter (addr F) ++ ((cell b x (lo + (j : Nat))).toList.filter (addr F)) := by
  rw [take_succ_at (irange_at h), List.filterMap_append, List.filter_append]
  congr 1
theorem rows_snoc {F : Fo} {b lo : Int} {n i : Nat} (h : i < n) : ((irange lo n).take (i + 1)).flatMap (rowF F b) = ((irange lo n).take i).flatMap (rowF F b) ++ rowF F b (lo + (i : Nat)) := by
  rw [take_succ_at (irange_at h), List.flatMap_append]
  simp
theorem pe_imp {X : Cx} {e : Expr} {t t' : TE} (h : PE X e t) (i : ∀ σ H Q, t' σ H Q → t σ H Q) : PE X e t' := ⟨fun pins s σ H Q I q => h.run pins s σ H Q I (i σ H Q q)⟩
/-- len(set(x)), x at the i-th slot: a list of tuples of ints, no two the same -/
def tLenSetQ (K : PySem.W.Frag) (i : Nat) : TE := fun σ H Q => ∃ (l : Addr) (ks : List (Addr × List Int)), σ[i]? = some (some (V.ref l)) ∧ SqL K H l (ks.map fun p => V.ref p.1) ∧ (∀ p ∈ ks, SqT K H p.1 (p.2.map V.int)) ∧ ks.length < 64 ∧ (ks.map (·.2)).Nodup ∧
  ∀ (n : Nat) H2, Same H H2 → ks.length ≤ n → Q (.int (n : Nat)) H2
theorem lenSet_imp {K : PySem.W.Frag} {P : Program} {w : World} {i : Nat} (σ : L2.St) (H : Hp) (Q : VK) (h : tLenSetQ K i σ H Q) : tCB (rLenSetT P w) (tCons (tCB (rSetOfT K P w) (tCons (tVar i) tNil)) tNil) σ H Q := by
  obtain ⟨l, ks, h1, h2, h3, h4, h5, k⟩ := h
  refine ⟨_, h1, l, ks, rfl, h2, h3, h4, fun a L ha _ hL => ⟨a, L, rfl, upd_same, fun _ => k L.length _ (same_upd ha) ?_⟩⟩
  have := sub_len (xs := ks.map (·.2)) (ys := L.map (·.2)) h5 fun x hx => by
    obtain ⟨p, hp, rfl⟩ := List.mem_map.mp hx
    exact hL p hp
  rw [List.length_map, List.length_map] at this
  exact this
theorem sq_le {x : Int} (h : -20 ≤ x ∧ x ≤ 20) : 0 ≤ x * x ∧ x * x ≤ 400 := by
  have h1 : x.natAbs ≤ 20 := by omega
  have h2 : x.natAbs * x.natAbs ≤ 20 * 20 := Nat.mul_le_mul h1 h1
  have h3 : ((x.natAbs * x.natAbs : Nat) : Int) = x * x := by rw [Int.natCast_mul, Int.natAbs_mul_self']
  omega
theorem cell_sm {b x y : Int} (h1 : 1 ≤ b) (h9 : b ≤ 9) (hx : -20 ≤ x ∧ x ≤ 20) (hy : -20 ≤ y ∧ y ≤ 20) : sm ⟨b, (x * x + y * y - 1) / b, x, y⟩ = true := by
  have q1 := sq_le hx
  have q2 := sq_le hy
  generalize x * x = u at q1
  generalize y * y = v at q2
  have q3 : ((u + v - 1) / b).natAbs < 1099511627776 := by
    have hb : b = 1 ∨ b = 2 ∨ b = 3 ∨ b = 4 ∨ b = 5 ∨ b = 6 ∨ b = 7 ∨ b = 8 ∨ b = 9 := by omega
    rcases hb with rfl | rfl | rfl | rfl | rfl | rfl | rfl | rfl | rfl <;> omega
  unfold sm
  simp only [Bool.and_eq_true, decide_eq_true_eq]
  exact ⟨⟨⟨by omega, q3⟩, by omega⟩, by omega⟩
theorem room65 {k : Nat} {A : Around} (r : Room k A) : A.units + 65 < cLine := by
  have := r.un
  omega
section
variable {P : Program} {w : World} {K : PySem.W.Frag} {mg : Str → Option Value} {base : Heap}
def spLaw (K : PySem.W.Frag) : Sp := fun vs H Q _ => ∃ (a : Addr) (ns : List Int), vs = [.ref a] ∧ SqL K H a (ns.map V.int) ∧ ns.length ≤ 63 ∧ ∀ H', Q (.bl true) H'
abbrev N_law : List Str := ["_law_script", "_law_numbers_here", "_law_n", "_law_root_here", "_law_turns", "_law_circle", "_law_circles", "_law_most", "_law_told", "_law_b", "_law_found", "_law_x", "_law_y", "_law_rest"]
theorem sc_law : FnScope N_law ["_law_script"] (defScope s_law) := ⟨rfl, rfl, rfl, by decide +kernel, rfl, by decide +kernel, by decide +kernel⟩
theorem ok_law {f : Addr} {fd : FuncData} (T : Txt K mg) (F : Fun K "law" "law" s_law f fd) : FnOk P w K mg base CX0 20 f fd ["_law_script"] (spLaw K) := by
  refine F.ok sc_law (fun vs H Q E h => ?_) (fun cdv A outer s H vs Q E hr h => ?_)
  · obtain ⟨a, ns, rfl, _⟩ := h
    rfl
  · obtain ⟨a, ns, rfl, hS, hlen, k⟩ := h
    refine ⟨_, pss_cons (ps_set (i := 1) sc_law.nd rfl (.inr rfl) (pe_call (ok_lNumbers T) (hr.mono (by decide)) (by rfl) T.g_lNumbers T.F_lNumbers.kp T.y_lNumbers .nil pass0 (pa_cons (pv 0) (pa_cons pe_int pa_nil)))) <|
      pss_cons (ps_set (i := 2) sc_law.nd rfl (.inr rfl) (pe_op op_add pe_int (pe_op op_mod (pe_callTy call_int1 (by rfl) T.b_int (by decide +kernel) (pa_cons (pe_ix ix_list (pv 1) pe_int (fun _ _ => rfl)) pa_nil)) pe_int))) <|
      pss_cons (ps_set (i := 3) sc_law.nd rfl (.inr rfl) (pe_call (ok_lBase T) (hr.mono (by decide)) (by rfl) T.g_lBase T.F_lBase.kp T.y_lBase .nil pass0 (pa_cons (pe_op op_mul pe_int (pv 2)) pa_nil))) <|
      pss_cons (ps_set (i := 4) sc_law.nd rfl (.inr rfl) (pe_op op_mod (pe_callTy call_int1 (by rfl) T.b_int (by decide +kernel) (pa_cons (pe_ix ix_list (pv 1) pe_int (fun _ _ => rfl)) pa_nil)) pe_int)) <|
      pss_cons (ps_set (i := 3) sc_law.nd rfl (.inr rfl) (pe_lc (own := [("_law_circle", 5)]) (g := gName 5) (tt := tYes) rfl sc_law.nd (pi_list (pv 3)) (blkOk_by (N := N_law) (sc := defScope s_law) (by decide +kernel))
          (fun _ _ _ _ _ => pg_name (i := 5) sc_law.nd rfl (Or.inl rfl)) (fun _ _ _ _ _ => pts_nil)
          (fun _ _ _ _ _ => pe_call (ok_lMoved T) (hr.mono (by decide)) (by rfl) T.g_lMoved T.F_lMoved.kp T.y_lMoved .nil pass0 (pa_cons (pv 5) (pa_cons pe_int (pa_cons pe_int (pa_cons (pv 4)
            (pa_cons (pe_cmpR op_eq (pe_op op_mod (pe_callTy call_int1 (by rfl) T.b_int (by decide +kernel) (pa_cons (pe_ix (r := rIxL K) ix_list (pv 1) pe_int (fun _ _ => rfl)) pa_nil)) pe_int) pe_int (nomark _)) pa_nil)))))))) <|
      pss_cons (ps_set (i := 3) sc_law.nd rfl (.inr rfl) (pe_lc (own := [("_law_circle", 5)]) (g := gName 5) (tt := tYes) rfl sc_law.nd (pi_list (pv 3)) (blkOk_by (N := N_law) (sc := defScope s_law) (by decide +kernel))
          (fun _ _ _ _ _ => pg_name (i := 5) sc_law.nd rfl (Or.inl rfl)) (fun _ _ _ _ _ => pts_nil)
          (fun _ _ _ _ _ => pe_ifExp (pt_cmpR op_eq (pv 2) pe_int (nomark _)) (pe_call (ok_lMoved T) (hr.mono (by decide)) (by rfl) T.g_lMoved T.F_lMoved.kp T.y_lMoved .nil pass0 (pa_cons (pv 5)
            (pa_cons (pe_op op_mul (pe_un un_neg (pe_ix (r := rIxT K) ix_tup (pe_ix (r := rIxL K) ix_list (pv 3) pe_int (fun _ _ => rfl)) pe_int (fun _ _ => rfl))) (pe_ix (r := rIxT K) ix_tup (pe_ix (r := rIxL K) ix_list (pv 3) pe_int (fun _ _ => rfl)) pe_int (fun _ _ => rfl)))
            (pa_cons (pe_op op_mul (pe_un un_neg (pe_ix (r := rIxT K) ix_tup (pe_ix (r := rIxL K) ix_list (pv 3) pe_int (fun _ _ => rfl)) pe_int (fun _ _ => rfl))) (pe_ix (r := rIxT K) ix_tup (pe_ix (r := rIxL K) ix_list (pv 3) pe_int (fun _ _ => rfl)) pe_int (fun _ _ => rfl)))
            (pa_cons pe_int (pa_cons pe_bl pa_nil)))))) (pv 5)))) <|
      pss_cons (ps_set (i := 6) sc_law.nd rfl (.inl rfl) (pe_call (ok_lAt T) (hr.mono (by decide)) (by rfl) T.g_lAt T.F_lAt.kp T.y_lAt .nil pass0 (pa_cons (pv 3) (pa_cons (pe_call (ok_lWord T) (hr.mono (by decide)) (by rfl) T.g_lWord T.F_lWord.kp T.y_lWord .nil pass0
          (pa_cons (pv 1) (pa_cons pe_int (pa_cons (pe_op op_mod (pe_callTy call_int1 (by rfl) T.b_int (by decide +kernel) (pa_cons (pe_ix ix_list (pv 1) pe_int (fun _ _ => rfl)) pa_nil)) pe_int) pa_nil)))) pa_nil)))) <|
      pss_cons (ps_set (i := 7) sc_law.nd rfl (.inr rfl) (pe_op op_add pe_int (pe_op op_mod (pe_callTy call_int1 (by rfl) T.b_int (by decide +kernel) (pa_cons (pe_ix ix_list (pv 1) pe_int (fun _ _ => rfl)) pa_nil)) pe_int))) <|
      pss_cons (ps_set (i := 8) sc_law.nd rfl (.inl rfl) (pe_call (ok_up T) (hr.mono (by decide)) (by rfl) T.g_up T.F_up.kp T.y_up T.v_up pass0 (pa_cons (pe_make T.m_fInit (ok_fInit T) (hr.mono (by decide)) (by rfl) T.gcF T.y_fInit .nil pass0 (pa_cons (pv 6) pa_nil)) (pa_cons (pv 7) pa_nil)))) <|
      pss_cons (ps_if (pt_cmpR op_lt (pe_imp (pe_callB call_lenSetT (by rfl) T.b_len PySem.boot_len (pa_cons (pe_callTy (cr_setOfT rfl hr.units) (by rfl) T.b_set (by decide +kernel) (pa_cons (pv 8) pa_nil)) pa_nil)) (lenSet_imp (K := K) (P := P) (w := w) (i := 8))) (pe_callB call_len_seq (by rfl) T.b_len PySem.boot_len (pa_cons (pv 8) pa_nil)) (nomark _)) (pss_one (ps_ret pe_bl)) pss_nil) <|
      pss_cons (ps_for PassesOwn.never rfl (pi_list (pv 6)) (pg_name (i := 5) sc_law.nd rfl (.inl rfl)) <| pss_one <|
        ps_if (PW.pt (pw_and (pt_cmpR op_le (pe_ix ix_tup (pv 5) pe_int (fun _ _ => rfl)) (pv 7) (nomark _)) (pw_and1 (pt_cmpR (op_notInD (room65 hr)) (pv 5) (pv 8) (by rfl))))) (pss_one (ps_ret pe_bl)) pss_nil) <|
      pss_cons (ps_for PassesOwn.never rfl (pi_range2 (by rfl) T.b_range (pa_cons pe_int (pa_cons (pe_op op_add (pv 7) pe_int) pa_nil))) (pg_name (i := 9) sc_law.nd rfl (.inr rfl)) <|
        pss_cons (ps_set (i := 10) sc_law.nd rfl (.inl rfl) (pe_lst pa_nil)) <|
        pss_cons (ps_for PassesOwn.never rfl (pi_range2 (by rfl) T.b_range (pa_cons (pe_op op_sub (pe_op op_mul (pe_un un_neg pe_int) (pv 9)) pe_int) (pa_cons (pe_op op_add (pe_op op_mul pe_int (pv 9)) pe_int) pa_nil))) (pg_name (i := 11) sc_law.nd rfl (.inl rfl)) <| pss_one <|
          ps_for PassesOwn.never rfl (pi_range2 (by rfl) T.b_range (pa_cons (pe_op op_sub (pe_op op_mul (pe_un un_neg pe_int) (pv 9)) pe_int) (pa_cons (pe_op op_add (pe_op op_mul pe_int (pv 9)) pe_int) pa_nil))) (pg_name (i := 12) sc_law.nd rfl (.inl rfl)) <|
            pss_cons (ps_set (i := 13) sc_law.nd rfl (.inl rfl) (pe_op op_sub (pe_op op_add (pe_op op_mul (pv 11) (pv 11)) (pe_op op_mul (pv 12) (pv 12))) pe_int)) <|
            pss_one <| ps_if (pt_cmpR op_eq (pe_op op_mod (pe_callTy call_int1 (by rfl) T.b_int (by decide +kernel) (pa_cons (pv 13) pa_nil)) (pv 9)) pe_int (nomark _))
              (pss_cons (ps_set (i := 5) sc_law.nd rfl (.inl rfl) (pe_tup (pa_cons (pv 9) (pa_cons (pe_callTy call_int1 (by rfl) T.b_int (by decide +kernel) (pa_cons (pe_op op_fdiv (pv 13) (pv 9)) pa_nil)) (pa_cons (pv 11) (pa_cons (pv 12) pa_nil)))))) <|
                pss_one <| ps_if (pt_cmpR op_notN (pe_call (ok_lAddress T) (hr.mono (by decide)) (by rfl) T.g_lAddress T.F_lAddress.kp T.y_lAddress .nil pass0 (pa_cons (pv 6) (pa_cons (pv 5) pa_nil))) pe_non (nomark _))
                  (pss_one <| ps_expr (pe_bm PySem.F.plainAttrs_list PySem.F.slot_list_append PySem.F.type_list_append mt_append (pv 10) (pa_cons (pv 5) pa_nil))) pss_nil) pss_nil) <|
        pss_one <| ps_if (pt_cmpR (op_neD hr.units) (pe_callB cr_sortQ (by rfl) T.b_sorted (by decide +kernel) (pa_cons (pv 10) pa_nil)) (pe_lc (own := [("_law_circle", 5)]) (g := gName 5) rfl sc_law.nd (pi_list (pv 8)) (blkOk_by (N := N_law) (sc := defScope s_law) (by decide +kernel))
            (fun _ _ _ _ _ => pg_name (i := 5) sc_law.nd rfl (Or.inl rfl)) (fun _ _ _ _ _ => pts_one (pt_cmpR op_eq (pe_ix (r := rIxT K) ix_tup (pv 5) pe_int (fun _ _ => rfl)) (pv 9) (nomark _))) (fun _ _ _ _ _ => pv 5)) (nomark _)) (pss_one (ps_ret pe_bl)) pss_nil) <|
      pss_one (ps_ret (pe_callB (cr_all rfl) (by rfl) T.b_all (by decide +kernel) (pa_cons (pe_lc (own := [("_law_circle", 5)]) (g := gName 5) (tt := tYes) rfl sc_law.nd (pi_list (pv 8)) (blkOk_by (N := N_law) (sc := defScope s_law) (by decide +kernel))
          (fun _ _ _ _ _ => pg_name (i := 5) sc_law.nd rfl (Or.inl rfl)) (fun _ _ _ _ _ => pts_nil)
          (fun _ _ _ _ _ => pe_and (pe_cmpR op_le (pe_ix (r := rIxT K) ix_tup (pv 5) pe_int (fun _ _ => rfl)) (pv 7) (nomark _)) (pe_one (pe_cmpR op_ne (pe_ix (r := rIxT K) ix_tup (pv 5) pe_int (fun _ _ => rfl)) pe_int (nomark _))))) pa_nil))), ?_⟩
    -- numbers
    refine ⟨_, rfl, a, ns, rfl, hS, hlen, fun nl H1 ms s1 e1 lms => ?_⟩
    have atm : ∀ i : Nat, i < 30 → atI (iv ms) (i : Nat) = some (V.int (ms.getD i 0)) := fun i h => at_d (by omega)
    -- n
    refine ⟨_, rfl, nl, _, _, _, rfl, rfl, SqL.of e1, atm 0 (by decide), .inl ⟨_, rfl, _, _, rfl, rfl, (by show (0 : Int) < 2; decide), _, _, rfl, rfl, ?_⟩⟩
    have hn : 1 + ms.getD 0 0 % 2 = 1 ∨ 1 + ms.getD 0 0 % 2 = 2 := by omega
    -- root
    refine ⟨_, rfl, _, _, rfl, rfl, mulL (by decide), 1 + ms.getD 0 0 % 2, rfl, hn, fun rv H2 s2 hR => ?_⟩
    obtain ⟨rl, rus, rfl, r1, r2⟩ := hR
    have e2 := s2 _ _ e1
    -- turns
    refine ⟨_, rfl, nl, _, _, _, rfl, rfl, SqL.of e2, atm 1 (by decide), .inl ⟨_, rfl, _, _, rfl, rfl, (by show (0 : Int) < 4; decide), ?_⟩⟩
    generalize hnn : 1 + ms.getD 0 0 % 2 = n at hn r2
    obtain ⟨q, hq, hq3⟩ : ∃ q : Nat, ms.getD 1 0 % 4 = (q : Int) ∧ q ≤ 3 := ⟨(ms.getD 1 0 % 4).toNat, by omega, by omega⟩
    generalize hfb : decide (V.int (ms.getD 2 0 % 2) = V.int 1) = fb
    have hrlen : rus.length = 4 := Paired.length r2
    refine ⟨_, rfl, rl, rfl, ⟨_, SqL.of r1⟩, fun D hD => lc_it (walk_list (K := K) (a := rl) (xs := rus)) (Gr H2 D fun i acc H' => CisAt H' acc ((root0 n q fb).take i)) (Gr.start hD .nil) (fun i H' _ g => SqL.of (g.1 _ _ r1)) ?_ ?_⟩
    · rintro i x H3 H4 hi ⟨s3, acc, e3, l3, hacc⟩ ⟨rfl, hx⟩
      obtain ⟨p, hp, rp⟩ := paired_at' r2 hx
      refine ⟨rfl, tYes_if ?_⟩
      refine ⟨_, rfl, _, rfl, _, rfl, nl, _, _, _, rfl, rfl, SqL.of (s3 _ _ e2), atm 2 (by decide), .inl ⟨_, rfl, _, _, rfl, rfl, (by show (0 : Int) < 2; decide), rfl, x, p, 0, 0, q, fb, ?_, rp.same s3, base_sm hn p (List.mem_of_getElem? hp), by unfold Sml; omega, by unfold Sml; omega, hq3, fun v H5 s5 hv => ?_⟩⟩
      · rw [← hq, ← hfb]
        rfl
      · refine Gr.push hD (by omega) s3 e3 l3 s5 ?_
        have e : (root0 n q fb)[i]? = some (moved p 0 0 q fb) := by
          unfold root0
          rw [List.getElem?_map, hp]
          rfl
        rw [take_succ_at e]
        exact CisAt.mut (paired_snoc hv (CisAt.same hacc s5)) (s5 _ _ e3)
    · rintro H3 ⟨s3, acc, e3, l3, hacc⟩
      rw [hrlen, ← root0_len n q fb, List.take_length] at hacc
      have halen : acc.length = 4 := Paired.length hacc
      have e23 := s3 _ _ e2
      obtain ⟨p0, hp0⟩ : ∃ p0, (root0 n q fb)[0]? = some p0 := ⟨_, rfl⟩
      obtain ⟨v0, hv0, c0, rfl, hc0⟩ := paired_at hacc hp0
      have hgd : (root0 n q fb).getD 0 ⟨0, 0, 0, 0⟩ = p0 := by
        rw [List.getD_eq_getElem?_getD, hp0]
        rfl
      have hsh := root0_sh (f := fb) hn hq3
      rw [hgd] at hsh
      have hb0 := (root0_sm (f := fb) hn hq3 p0 (List.mem_of_getElem? hp0)).2
      refine ⟨_, rfl, D, rfl, ⟨_, SqL.of e3⟩, fun D2 hD2 => lc_it (walk_list (K := K) (a := D) (xs := acc)) (Gr H3 D2 fun i acc H' => CisAt H' acc ((root n q fb).take i)) (Gr.start hD2 .nil) (fun i H' _ g => SqL.of (g.1 _ _ e3)) ?_ ?_⟩
      · rintro i x H4 H5 hi ⟨s4, acc4, e4, l4, hacc4⟩ ⟨rfl, hx⟩
        obtain ⟨p, hp, rp⟩ := paired_at' hacc hx
        have hLD := SqL.of (K := K) (s4 _ _ e3)
        have hT0 := SqT.of (K := K) (s4 _ _ hc0)
        refine ⟨rfl, tYes_if ?_⟩
        refine ⟨_, rfl, rfl, _, rfl, ?_⟩
        have e : (root n q fb)[i]? = some (if n = 1 then moved p (-p0.x * p0.b) (-p0.y * p0.b) 0 false else p) := by
          unfold root
          dsimp only
          rw [List.getElem?_map, hp, hgd]
          rfl
        refine ite2 (fun h => ?_) (fun h => ?_)
        · have h1 : n = 1 := by
            rw [← hnn]
            exact V.int.inj (of_decide_eq_true h)
          rw [if_pos h1] at e
          refine ⟨_, rfl, _, rfl, D, _, _, _, rfl, rfl, hLD, atI_nat (j := 0) hv0, c0, _, _, _, rfl, rfl, hT0, atI_nat (j := 2) rfl, _, rfl, _, rfl, D, _, _, _, rfl, rfl, hLD, atI_nat (j := 0) hv0, c0, _, _, _, rfl, rfl, hT0, atI_nat (j := 0) rfl, _, _, rfl, rfl, mulL (by omega),
            _, rfl, D, _, _, _, rfl, rfl, hLD, atI_nat (j := 0) hv0, c0, _, _, _, rfl, rfl, hT0, atI_nat (j := 3) rfl, _, rfl, _, rfl, D, _, _, _, rfl, rfl, hLD, atI_nat (j := 0) hv0, c0, _, _, _, rfl, rfl, hT0, atI_nat (j := 0) rfl, _, _, rfl, rfl, mulL (by omega),
            x, p, -p0.x * p0.b, -p0.y * p0.b, 0, false, rfl, rp.same s4, (root0_sm (f := fb) hn hq3 p (List.mem_of_getElem? hp)).1, by unfold Sml; omega, by unfold Sml; omega, by decide, fun v H6 s6 hv => ?_⟩
          refine Gr.push hD2 (by omega) s4 e4 l4 s6 ?_
          rw [take_succ_at e]
          exact CisAt.mut (paired_snoc hv (CisAt.same hacc4 s6)) (s6 _ _ e4)
        · have h1 : ¬ n = 1 := by
            rw [← hnn]
            exact fun z => h (decide_eq_true (congrArg V.int z))
          rw [if_neg h1] at e
          refine ⟨_, rfl, ?_⟩
          refine Gr.push hD2 (by omega) s4 e4 l4 (Same.refl _) ?_
          rw [take_succ_at e]
          exact CisAt.mut (paired_snoc (rp.same s4) hacc4) e4
      · rintro H4 ⟨s4, acc4, e4, l4, hacc4⟩
        rw [halen, ← root_len n q fb, List.take_length] at hacc4
        have e24 := s4 _ _ e23
        -- circles
        refine ⟨_, rfl, _, rfl, _, rfl, nl, _, _, _, rfl, rfl, SqL.of e24, atm 9 (by decide), .inl ⟨_, rfl, _, _, rfl, rfl, (by show (0 : Int) < 4; decide), nl, ms, (ms.getD 9 0 % 4).toNat, ?_, SqL.of e24, lms, by omega, fun t H5 ws s5 hT hw => ?_⟩⟩
        · rw [Int.toNat_of_nonneg (by omega)]
          rfl
        · refine ⟨.ref D2, root n q fb, t, ws, rfl, ⟨D2, acc4, rfl, s5 _ _ e4, CisAt.same hacc4 s5⟩, root_len n q fb, hT, words_num hw, fun cl H6 s6 hC => ?_⟩
          obtain ⟨l6, us6, rfl, c1, c2⟩ := hC
          have e26 := s6 _ _ (s5 _ _ e24)
          -- most
          refine ⟨_, rfl, nl, _, _, _, rfl, rfl, SqL.of e26, atm 10 (by decide), .inl ⟨_, rfl, _, _, rfl, rfl, (by show (0 : Int) < 9; decide), _, _, rfl, rfl, ?_⟩⟩
          have hm : 1 ≤ 1 + ms.getD 10 0 % 9 ∧ 1 + ms.getD 10 0 % 9 ≤ 9 := by omega
          have PO := plain_ok (f := fb) hn hq3 (by omega) hw hm
          generalize hFF : at4 (root n q fb) ws = FF at c2 PO
          have hFlen : FF.length = 4 := okF_len PO.ok
          obtain ⟨w', R', res, hwd, hst, hrun, hall⟩ := PO.run
          -- told
          refine ⟨_, rfl, fun x dx hx hdx hne => ⟨x, dx, l6, us6, FF, rfl, upd_same, ?_, ?_, PO.ok, fun H7 k7 f7 => ⟨rfl, _, rfl, .ref x, FF, _, 8, w', R', 100, res, rfl, f7, hFlen, by decide, hwd, hst, hrun, fun tl H8 ys told s8 e8 ct hperm hpw => ?_⟩⟩⟩
          · rw [upd_ne (ne_of_none c1 hx), upd_ne (ne_of_none c1 hdx)]
            exact c1
          · refine CisAt.same c2 fun b o e => ?_
            rw [upd_ne (ne_of_none e hx), upd_ne (ne_of_none e hdx)]
            exact e
          · obtain ⟨hnd, hl60, hin, hfs, hall2⟩ := hall told hperm hpw
            have s68 : Same H6 H8 := (Same.made hx hdx k7).trans s8
            have c18 := s68 _ _ c1
            have c28 : CisAt H8 us6 FF := CisAt.same c2 s68
            have hylen : ys.length = told.length := Paired.length ct
            have hus : us6.length = 4 := by rw [Paired.length c2, hFlen]
            obtain ⟨ks, kk1, kk2, kk3⟩ := cis_ks ct
            have hksl : ks.length = told.length := by
              have := congrArg List.length kk2
              rw [List.length_map, List.length_map] at this
              exact this
            -- len(set(told)) < len(told)
            refine ⟨tl, ks, rfl, by rw [kk1]; exact SqL.of e8, fun p hp => SqT.of (kk3 p hp), by omega, by rw [kk2]; exact nodup_map (fun _ _ => il_inj) hnd, fun N H9 s9 hLlen => ?_⟩
            refine ⟨_, rfl, tl, ys, rfl, .inl (SqL.of (s9 _ _ e8)), _, _, rfl, rfl, _, rfl, ?_⟩
            have edl : decide (((N : Nat) : Int) < ((ys.length : Nat) : Int)) = false := decide_eq_false (by omega)
            rw [edl]
            refine iteF ?_
            have e9 := s9 _ _ e8
            have ct9 := CisAt.same ct s9
            have c19 := s9 _ _ c18
            have c29 := CisAt.same c28 s9
            -- each circle of the four
            refine ⟨_, rfl, l6, rfl, ⟨_, SqL.of c19⟩, for_it (walk_list (K := K) (a := l6) (xs := us6)) (fun i σ H' => H' = H9 ∧ ∃ z, σ = [some (.ref a), some (.ref nl), some (.int (1 + ms.getD 0 0 % 2)), some (.ref D2), some (.int (ms.getD 1 0 % 4)), z, some (.ref l6), some (.int (1 + ms.getD 10 0 % 9)), some (.ref tl), none, none, none, none, none])
              ⟨rfl, _, rfl⟩ (fun i σ H' _ g => by rw [g.1]; exact SqL.of c19) ?_ ?_⟩
            · rintro i x σ H10 H11 hi ⟨rfl, z, rfl⟩ ⟨rfl, hx⟩
              obtain ⟨p, hp, c, rfl, hc⟩ := paired_at' c29 hx
              refine ⟨_, rfl, c, _, _, _, rfl, rfl, SqT.of hc, atI_nat (j := 0) rfl, _, rfl, _, _, rfl, rfl, _, rfl, ?_⟩
              refine ite2 (fun h => ?_) (fun h => ?_)
              · have hpm : p ∈ told := hin p (List.mem_of_getElem? hp) (of_decide_eq_true h)
                refine ⟨_, rfl, _, rfl, dC p, dCs told, dp_ci ⟨c, rfl, hc⟩, .lst (SqL.of e9) (dpAll_cis ct9), dC_shaped p, dCs_shaped told, _, rfl, ?_⟩
                have ea : ((dCs told).any fun z => PyData.eqv z (dC p)) = true := List.any_eq_true.mpr ⟨dC p, List.mem_map.mpr ⟨p, hpm, rfl⟩, by rw [dC_eqv]; simp⟩
                rw [ea]
                refine iteF ?_
                exact ⟨rfl, _, rfl⟩
              · refine iteF ?_
                exact ⟨rfl, _, rfl⟩
            · rintro σ H10 ⟨rfl, z, rfl⟩
              -- the curvatures
              refine ⟨_, rfl, _, _, rfl, rfl, 1, (1 + ms.getD 10 0 % 9) + 1, rfl, by omega, for_it (walk_range (lo := 1) (n := ((1 + ms.getD 10 0 % 9) + 1 - 1).toNat)) (fun i σ H' => Same H10 H' ∧ ∃ z5 z9 z10 z11 z12 z13, σ = [some (.ref a), some (.ref nl), some (.int (1 + ms.getD 0 0 % 2)), some (.ref D2), some (.int (ms.getD 1 0 % 4)), z5, some (.ref l6), some (.int (1 + ms.getD 10 0 % 9)), some (.ref tl), z9, z10, z11, z12, z13]) ⟨Same.refl _, _, _, _, _, _, _, rfl⟩ (fun _ _ _ _ _ => trivial) ?_ ?_⟩
              · rintro i xv σ H11 H12 hi ⟨s11, z5, z9, z10, z11, z12, z13, rfl⟩ ⟨rfl, rfl⟩
                have hb1 : 1 ≤ (1 + ((i : Nat) : Int)) := by omega
                have hb2 : (1 + ((i : Nat) : Int)) ≤ (1 + ms.getD 10 0 % 9) := by omega
                have hb9 : (1 + ((i : Nat) : Int)) ≤ 9 := by omega
                have hNN : (2 * (1 + ((i : Nat) : Int)) + 3 - (-2 * (1 + ((i : Nat) : Int)) - 2)).toNat = (4 * (1 + ((i : Nat) : Int)) + 5).toNat := by omega
                refine ⟨Nat.zero_le _, fun fl hfl => ?_⟩
                have s12 := same_upd (o := .lst []) hfl
                have e12 : (upd H12 fl (.lst [])) fl = some (.lst []) := upd_same
                have ct12 : CisAt H12 ys told := CisAt.same ct9 s11
                have et12 : H12 tl = some (.lst ys) := s11 _ _ e9
                have hl12 : LisAt H12 (.ref l6) FF := ⟨l6, us6, rfl, s11 _ _ c19, CisAt.same c29 s11⟩
                refine ⟨_, rfl, _, rfl, _, _, rfl, rfl, mulL (by decide), _, _, rfl, rfl, _, rfl, _, _, rfl, rfl, mul2 _, _, _, rfl, rfl, (-2 * (1 + ((i : Nat) : Int)) - 2), 2 * (1 + ((i : Nat) : Int)) + 3, rfl, by omega, for_it (walk_range (lo := (-2 * (1 + ((i : Nat) : Int)) - 2)) (n := (2 * (1 + ((i : Nat) : Int)) + 3 - (-2 * (1 + ((i : Nat) : Int)) - 2)).toNat)) (fun xi σ H' => Same H12 H' ∧ (∃ z5 z11 z12 z13, σ = [some (.ref a), some (.ref nl), some (.int (1 + ms.getD 0 0 % 2)), some (.ref D2), some (.int (ms.getD 1 0 % 4)), z5, some (.ref l6), some (.int (1 + ms.getD 10 0 % 9)), some (.ref tl), some (.int (1 + ((i : Nat) : Int))), some (.ref fl), z11, z12, z13]) ∧ ∃ acc, H' fl = some (.lst acc) ∧ CisAt H' acc (((irange (-2 * (1 + ((i : Nat) : Int)) - 2) (2 * (1 + ((i : Nat) : Int)) + 3 - (-2 * (1 + ((i : Nat) : Int)) - 2)).toNat).take xi).flatMap (rowF FF (1 + ((i : Nat) : Int)))) ∧ acc.length ≤ xi * 41)
                  ⟨s12, ⟨_, _, _, _, rfl⟩, [], e12, .nil, Nat.zero_le _⟩ (fun _ _ _ _ _ => trivial) ?_ ?_⟩
                · rintro xi xw σ H13 H14 hxi ⟨s13, ⟨z5, z11, z12, z13, rfl⟩, acc, e13, c13, l13⟩ ⟨rfl, rfl⟩
                  have hx20 : -20 ≤ ((-2 * (1 + ((i : Nat) : Int)) - 2) + ((xi : Nat) : Int)) ∧ ((-2 * (1 + ((i : Nat) : Int)) - 2) + ((xi : Nat) : Int)) ≤ 20 := by omega
                  refine ⟨_, rfl, _, rfl, _, _, rfl, rfl, mulL (by decide), _, _, rfl, rfl, _, rfl, _, _, rfl, rfl, mul2 _, _, _, rfl, rfl, (-2 * (1 + ((i : Nat) : Int)) - 2), 2 * (1 + ((i : Nat) : Int)) + 3, rfl, by omega, for_it (walk_range (lo := (-2 * (1 + ((i : Nat) : Int)) - 2)) (n := (2 * (1 + ((i : Nat) : Int)) + 3 - (-2 * (1 + ((i : Nat) : Int)) - 2)).toNat)) (fun yj σ H' => Same H12 H' ∧ (∃ z5 z12 z13, σ = [some (.ref a), some (.ref nl), some (.int (1 + ms.getD 0 0 % 2)), some (.ref D2), some (.int (ms.getD 1 0 % 4)), z5, some (.ref l6), some (.int (1 + ms.getD 10 0 % 9)), some (.ref tl), some (.int (1 + ((i : Nat) : Int))), some (.ref fl), some (.int ((-2 * (1 + ((i : Nat) : Int)) - 2) + ((xi : Nat) : Int))), z12, z13]) ∧ ∃ acc, H' fl = some (.lst acc) ∧ CisAt H' acc (((irange (-2 * (1 + ((i : Nat) : Int)) - 2) (2 * (1 + ((i : Nat) : Int)) + 3 - (-2 * (1 + ((i : Nat) : Int)) - 2)).toNat).take xi).flatMap (rowF FF (1 + ((i : Nat) : Int))) ++ (((irange (-2 * (1 + ((i : Nat) : Int)) - 2) (2 * (1 + ((i : Nat) : Int)) + 3 - (-2 * (1 + ((i : Nat) : Int)) - 2)).toNat).take yj).filterMap (cell (1 + ((i : Nat) : Int)) ((-2 * (1 + ((i : Nat) : Int)) - 2) + ((xi : Nat) : Int)))).filter (addr FF)) ∧ acc.length ≤ xi * 41 + yj)
                    ⟨s13, ⟨_, _, _, rfl⟩, acc, e13, by simpa using c13, by omega⟩ (fun _ _ _ _ _ => trivial) ?_ ?_⟩
                  · rintro yj yw σ H15 H16 hyj ⟨s15, ⟨z5, z12, z13, rfl⟩, acc, e15, c15, l15⟩ ⟨rfl, rfl⟩
                    have hy20 : -20 ≤ ((-2 * (1 + ((i : Nat) : Int)) - 2) + ((yj : Nat) : Int)) ∧ ((-2 * (1 + ((i : Nat) : Int)) - 2) + ((yj : Nat) : Int)) ≤ 20 := by omega
                    have hcs := cells_snoc (F := FF) (b := (1 + ((i : Nat) : Int))) (x := ((-2 * (1 + ((i : Nat) : Int)) - 2) + ((xi : Nat) : Int))) (lo := (-2 * (1 + ((i : Nat) : Int)) - 2)) hyj
                    refine ⟨_, rfl, _, rfl, _, _, rfl, rfl, mulL (by omega), _, rfl, _, rfl, _, _, rfl, rfl, mulL (by omega), _, _, rfl, rfl, _, _, rfl, rfl, ?_⟩
                    refine ⟨_, rfl, .inl ⟨_, rfl, _, rfl, _, _, rfl, rfl, hb1, rfl, _, rfl, ?_⟩⟩
                    refine ite2 (fun h => ?_) (fun h => ?_)
                    · have h0 : (((-2 * (1 + ((i : Nat) : Int)) - 2) + ((xi : Nat) : Int)) * ((-2 * (1 + ((i : Nat) : Int)) - 2) + ((xi : Nat) : Int)) + ((-2 * (1 + ((i : Nat) : Int)) - 2) + ((yj : Nat) : Int)) * ((-2 * (1 + ((i : Nat) : Int)) - 2) + ((yj : Nat) : Int)) - 1) % (1 + ((i : Nat) : Int)) = 0 := V.int.inj (of_decide_eq_true h)
                      have hcell : cell (1 + ((i : Nat) : Int)) ((-2 * (1 + ((i : Nat) : Int)) - 2) + ((xi : Nat) : Int)) ((-2 * (1 + ((i : Nat) : Int)) - 2) + ((yj : Nat) : Int)) = some ⟨(1 + ((i : Nat) : Int)), (((-2 * (1 + ((i : Nat) : Int)) - 2) + ((xi : Nat) : Int)) * ((-2 * (1 + ((i : Nat) : Int)) - 2) + ((xi : Nat) : Int)) + ((-2 * (1 + ((i : Nat) : Int)) - 2) + ((yj : Nat) : Int)) * ((-2 * (1 + ((i : Nat) : Int)) - 2) + ((yj : Nat) : Int)) - 1) / (1 + ((i : Nat) : Int)), ((-2 * (1 + ((i : Nat) : Int)) - 2) + ((xi : Nat) : Int)), ((-2 * (1 + ((i : Nat) : Int)) - 2) + ((yj : Nat) : Int))⟩ := if_pos h0
                      rw [hcell] at hcs
                      have hsm := cell_sm hb1 hb9 hx20 hy20
                      refine ⟨_, rfl, _, rfl, _, rfl, _, _, rfl, rfl, ⟨hb1, by omega⟩, .inl ⟨_, rfl, _, rfl, _, rfl, by show 4 ≤ sizeLine; decide, fun cp hcp => ?_⟩⟩
                      have s16 := same_upd (o := .tup (cv ⟨(1 + ((i : Nat) : Int)), (((-2 * (1 + ((i : Nat) : Int)) - 2) + ((xi : Nat) : Int)) * ((-2 * (1 + ((i : Nat) : Int)) - 2) + ((xi : Nat) : Int)) + ((-2 * (1 + ((i : Nat) : Int)) - 2) + ((yj : Nat) : Int)) * ((-2 * (1 + ((i : Nat) : Int)) - 2) + ((yj : Nat) : Int)) - 1) / (1 + ((i : Nat) : Int)), ((-2 * (1 + ((i : Nat) : Int)) - 2) + ((xi : Nat) : Int)), ((-2 * (1 + ((i : Nat) : Int)) - 2) + ((yj : Nat) : Int))⟩)) hcp
                      have hcv : CiAt (upd H16 cp (.tup (cv ⟨(1 + ((i : Nat) : Int)), (((-2 * (1 + ((i : Nat) : Int)) - 2) + ((xi : Nat) : Int)) * ((-2 * (1 + ((i : Nat) : Int)) - 2) + ((xi : Nat) : Int)) + ((-2 * (1 + ((i : Nat) : Int)) - 2) + ((yj : Nat) : Int)) * ((-2 * (1 + ((i : Nat) : Int)) - 2) + ((yj : Nat) : Int)) - 1) / (1 + ((i : Nat) : Int)), ((-2 * (1 + ((i : Nat) : Int)) - 2) + ((xi : Nat) : Int)), ((-2 * (1 + ((i : Nat) : Int)) - 2) + ((yj : Nat) : Int))⟩))) (.ref cp) ⟨(1 + ((i : Nat) : Int)), (((-2 * (1 + ((i : Nat) : Int)) - 2) + ((xi : Nat) : Int)) * ((-2 * (1 + ((i : Nat) : Int)) - 2) + ((xi : Nat) : Int)) + ((-2 * (1 + ((i : Nat) : Int)) - 2) + ((yj : Nat) : Int)) * ((-2 * (1 + ((i : Nat) : Int)) - 2) + ((yj : Nat) : Int)) - 1) / (1 + ((i : Nat) : Int)), ((-2 * (1 + ((i : Nat) : Int)) - 2) + ((xi : Nat) : Int)), ((-2 * (1 + ((i : Nat) : Int)) - 2) + ((yj : Nat) : Int))⟩ := ⟨cp, rfl, upd_same⟩
                      generalize hC : (⟨(1 + ((i : Nat) : Int)), (((-2 * (1 + ((i : Nat) : Int)) - 2) + ((xi : Nat) : Int)) * ((-2 * (1 + ((i : Nat) : Int)) - 2) + ((xi : Nat) : Int)) + ((-2 * (1 + ((i : Nat) : Int)) - 2) + ((yj : Nat) : Int)) * ((-2 * (1 + ((i : Nat) : Int)) - 2) + ((yj : Nat) : Int)) - 1) / (1 + ((i : Nat) : Int)), ((-2 * (1 + ((i : Nat) : Int)) - 2) + ((xi : Nat) : Int)), ((-2 * (1 + ((i : Nat) : Int)) - 2) + ((yj : Nat) : Int))⟩ : Ci) = C at hcs hsm
                      refine ⟨_, rfl, _, rfl, .ref l6, .ref cp, FF, C, rfl, (hl12.same s15).same s16, hFlen, ?_, hsm, fun r H17 s17 q1 q2 => ⟨rfl, _, rfl, ?_⟩⟩
                      · rw [← hC]
                        exact hcv
                      · have s1217 : Same H12 H17 := s15.trans (s16.trans s17)
                        have e17 : H17 fl = some (.lst acc) := s17 _ _ (s16 _ _ e15)
                        have c17 := CisAt.same c15 (s16.trans s17)
                        have hcv17 : CiAt H17 (.ref cp) C := by
                          refine CiAt.same ?_ s17
                          rw [← hC]
                          exact hcv
                        by_cases ha : addr FF C = true
                        · obtain ⟨ra, rfl⟩ := q1 ha
                          have ed : (!decide (V.ref ra = V.non)) = true := by
                            rw [decide_eq_false (fun z => nomatch z)]
                            rfl
                          rw [ed]
                          refine iteT ?_
                          refine ⟨_, rfl, .inl ⟨rfl, _, SqL.of e17⟩, _, rfl, fl, _, _, rfl, rfl, e17, Nat.lt_of_le_of_lt (m := 100000) (by omega) (by decide), ?_⟩
                          refine ⟨Same.mut s1217 hfl, ⟨_, _, _, rfl⟩, acc ++ [.ref cp], upd_same, ?_, by rw [List.length_append]; exact Nat.succ_le_succ l15⟩
                          rw [hcs, ← List.append_assoc]
                          have : (some C).toList.filter (addr FF) = [C] := by simp [ha]
                          rw [this]
                          exact CisAt.mut (paired_snoc hcv17 c17) e17
                        · have ha' : addr FF C = false := by simpa using ha
                          obtain rfl := q2 ha'
                          refine iteF ?_
                          refine ⟨s1217, ⟨_, _, _, rfl⟩, acc, e17, ?_, by omega⟩
                          have : (some C).toList.filter (addr FF) = [] := by simp [ha']
                          rw [hcs, this, List.append_nil]
                          exact c17
                    · have h0 : ¬ (((-2 * (1 + ((i : Nat) : Int)) - 2) + ((xi : Nat) : Int)) * ((-2 * (1 + ((i : Nat) : Int)) - 2) + ((xi : Nat) : Int)) + ((-2 * (1 + ((i : Nat) : Int)) - 2) + ((yj : Nat) : Int)) * ((-2 * (1 + ((i : Nat) : Int)) - 2) + ((yj : Nat) : Int)) - 1) % (1 + ((i : Nat) : Int)) = 0 := fun z => h (decide_eq_true (congrArg V.int z))
                      have hcell : cell (1 + ((i : Nat) : Int)) ((-2 * (1 + ((i : Nat) : Int)) - 2) + ((xi : Nat) : Int)) ((-2 * (1 + ((i : Nat) : Int)) - 2) + ((yj : Nat) : Int)) = none := if_neg h0
                      rw [hcell] at hcs
                      refine ⟨s15, ⟨_, _, _, rfl⟩, acc, e15, ?_, by omega⟩
                      rw [hcs]
                      simpa using c15
                  · rintro σ H15 ⟨s15, ⟨z5, z12, z13, rfl⟩, acc, e15, c15, l15⟩
                    refine ⟨s15, ⟨_, _, _, _, rfl⟩, acc, e15, ?_, by omega⟩
                    rw [rows_snoc hxi, rowF_eq, ← hNN]
                    rw [List.take_of_length_le (l := irange (-2 * (1 + ((i : Nat) : Int)) - 2) (2 * (1 + ((i : Nat) : Int)) + 3 - (-2 * (1 + ((i : Nat) : Int)) - 2)).toNat) (i := (2 * (1 + ((i : Nat) : Int)) + 3 - (-2 * (1 + ((i : Nat) : Int)) - 2)).toNat) (by rw [irange_len]; exact Nat.le_refl _)] at c15
                    exact c15
                · rintro σ H13 ⟨s13, ⟨z5, z11, z12, z13, rfl⟩, acc, e13, c13, l13⟩
                  have hfd : ((irange (-2 * (1 + ((i : Nat) : Int)) - 2) (2 * (1 + ((i : Nat) : Int)) + 3 - (-2 * (1 + ((i : Nat) : Int)) - 2)).toNat).take (2 * (1 + ((i : Nat) : Int)) + 3 - (-2 * (1 + ((i : Nat) : Int)) - 2)).toNat).flatMap (rowF FF (1 + ((i : Nat) : Int))) = found FF (1 + ((i : Nat) : Int)) := by
                    rw [List.take_of_length_le (by rw [irange_len]; exact Nat.le_refl _), found_eq, hNN]
                  rw [hfd] at c13
                  have ct13 := CisAt.same ct12 s13
                  have et13 := s13 _ _ et12
                  refine ⟨_, rfl, fl, acc, rfl, SqL.of e13, fun x hx => ?_, fun ys2 p2 hp2 hpw2 hn2 => ?_⟩
                  · obtain ⟨j, hj, e⟩ := List.mem_iff_getElem.mp hx
                    obtain ⟨q, hq, c, rfl, hc⟩ := paired_at' c13 (show _ = some x by rw [← e]; exact List.getElem?_eq_getElem hj)
                    exact ⟨q.b, [q.c, q.x, q.y], c, rfl, SqT.of hc⟩
                  · obtain ⟨fs, f1, f2⟩ := paired_perm hp2 c13
                    have hpwf : fs.Pairwise LeC := by
                      refine paired_pw (fun x y p q ⟨a, ea, ha⟩ ⟨b, eb, hb⟩ hxy => ?_) f1 hpw2
                      exact hxy (il p) (il q) ⟨a, ea, SqT.of ha⟩ ⟨b, eb, SqT.of hb⟩
                    have hfe := hfs (1 + ((i : Nat) : Int)) hb1 hb2 fs f2 hpwf
                    have s14 : Same H13 (upd H13 p2 (.lst ys2)) := same_upd hn2
                    have e14 : (upd H13 p2 (.lst ys2)) p2 = some (.lst ys2) := upd_same
                    have f14 : CisAt (upd H13 p2 (.lst ys2)) ys2 fs := CisAt.same f1 s14
                    have ct14 := CisAt.same ct13 s14
                    have et14 := s14 _ _ et13
                    have s1014 : Same H10 (upd H13 p2 (.lst ys2)) := (s11.trans s13).trans s14
                    generalize upd H13 p2 (.lst ys2) = H14 at s14 e14 f14 ct14 et14 s1014
                    refine ⟨_, rfl, tl, rfl, ⟨_, SqL.of et14⟩, fun D3 hD3 => lc_it (walk_list (K := K) (a := tl) (xs := ys)) (Gr H14 D3 fun j acc H' => CisAt H' acc ((told.take j).filter fun c => decide (c.b = (1 + ((i : Nat) : Int))))) (Gr.start hD3 .nil) (fun j H' _ g => SqL.of (g.1 _ _ et14)) ?_ ?_⟩
                    · rintro j x H15 H16 hj ⟨s15, acc5, e15, l15, hacc5⟩ ⟨rfl, hx⟩
                      obtain ⟨p, hp, c, rfl, hc⟩ := paired_at' (CisAt.same ct14 s15) hx
                      refine ⟨rfl, _, rfl, c, _, _, _, rfl, rfl, SqT.of hc, atI_nat (j := 0) rfl, _, rfl, rfl, decide (V.int p.b = V.int (1 + ((i : Nat) : Int))), rfl, ?_⟩
                      refine ite2 (fun h => ?_) (fun h => ?_)
                      · have hb : p.b = (1 + ((i : Nat) : Int)) := V.int.inj (of_decide_eq_true h)
                        refine ⟨_, rfl, ?_⟩
                        refine Gr.push hD3 (by omega) s15 e15 l15 (Same.refl _) ?_
                        rw [take_succ_at hp, List.filter_append, List.filter_cons_of_pos (by simpa using hb)]
                        exact CisAt.mut (paired_snoc ⟨c, rfl, hc⟩ hacc5) e15
                      · have hb : ¬ p.b = (1 + ((i : Nat) : Int)) := fun z => h (decide_eq_true (congrArg V.int z))
                        refine Gr.keep (Acc := fun j acc H' => CisAt H' acc ((told.take j).filter fun c => decide (c.b = (1 + ((i : Nat) : Int))))) s15 e15 l15 (Same.refl _) ?_
                        rw [take_succ_at hp, List.filter_append, List.filter_cons_of_neg (by simpa using hb), List.filter_nil, List.append_nil]
                        exact hacc5
                    · rintro H15 ⟨s15, acc5, e15, l15, hacc5⟩
                      rw [hylen, List.take_length] at hacc5
                      refine ⟨.list (dCs fs), .list (dCs (told.filter fun c => decide (c.b = (1 + ((i : Nat) : Int))))), .lst (SqL.of (s15 _ _ e14)) (dpAll_cis (CisAt.same f14 s15)), .lst (SqL.of e15) (dpAll_cis hacc5), dCs_shaped _, dCs_shaped _, _, rfl, ?_⟩
                      have eq1 : (!PyData.eqv (.list (dCs fs)) (.list (dCs (told.filter fun c => decide (c.b = (1 + ((i : Nat) : Int))))))) = false := by
                        rw [dCs_eqvL, decide_eq_true hfe]
                        rfl
                      rw [eq1]
                      refine iteF ?_
                      exact ⟨s1014.trans s15, _, _, _, _, _, _, rfl⟩
              · rintro σ H11 ⟨s11, z5, z9, z10, z11, z12, z13, rfl⟩
                have e11 := s11 _ _ e9
                have ct11 := CisAt.same ct9 s11
                refine ⟨_, rfl, tl, rfl, ⟨_, SqL.of e11⟩, fun D3 hD3 => lc_it (walk_list (K := K) (a := tl) (xs := ys)) (Gr H11 D3 fun j acc _ => acc = (List.replicate j true).map V.bl) (Gr.start hD3 rfl) (fun j H' _ g => SqL.of (g.1 _ _ e11)) ?_ ?_⟩
                · rintro j x H12 H13 hj ⟨s12, acc, e12, l12, hacc⟩ ⟨rfl, hx⟩
                  obtain ⟨p, hp, c, rfl, hc⟩ := paired_at' (CisAt.same ct11 s12) hx
                  obtain ⟨g1, g2⟩ := hall2 p (List.mem_of_getElem? hp)
                  refine ⟨rfl, tYes_if ?_⟩
                  refine ⟨_, rfl, c, _, _, _, rfl, rfl, SqT.of hc, atI_nat (j := 0) rfl, _, rfl, _, _, rfl, rfl, decide (p.b ≤ (1 + ms.getD 10 0 % 9)), rfl, ?_⟩
                  rw [decide_eq_true g1]
                  refine iteT ?_
                  refine ⟨_, rfl, c, _, _, _, rfl, rfl, SqT.of hc, atI_nat (j := 0) rfl, rfl, ?_⟩
                  have ene : (!decide (V.int p.b = V.int 0)) = true := by
                    rw [decide_eq_false fun z => g2 (V.int.inj z)]
                    rfl
                  rw [ene]
                  refine Gr.push hD3 (by omega) s12 e12 l12 (Same.refl _) ?_
                  rw [hacc, List.replicate_succ', List.map_append]
                  rfl
                · rintro H12 ⟨s12, acc, e12, l12, hacc⟩
                  refine ⟨D3, List.replicate ys.length true, rfl, hacc ▸ SqL.of e12, ?_⟩
                  have ea : (List.replicate ys.length true).all id = true := by simp
                  rw [ea]
                  exact k _
end
end K51
/-! K51E: the end. -/
namespace K51
open PySem L2
theorem all_mk {K : PySem.W.Frag} {h : Heap} {mg : Str → Option Value} {fa cF cS nL nN nF fisCircle fcheckCircle fdouble foutward ftouch fcheckWord ffourAt ffoursAlong fgreaterPlace fwayDown frootOf fboundedRoot fsInit fsNote fsRun fcheckNumber ffInit ffCurv ffCircle ffOther ffExch ffStrip flRow flNumbers flBase flMoved flOther flExch flAt flWord flDouble flEighths flAddress fup Dup flaw : Addr} {ddnL ddnN ddnF odisCircle anisCircle odcheckCircle ancheckCircle oddouble andouble odoutward anoutward odtouch antouch odcheckWord ancheckWord odfourAt anfourAt odfoursAlong anfoursAlong odgreaterPlace angreaterPlace odwayDown anwayDown odrootOf anrootOf odboundedRoot anboundedRoot odsInit ansInit odsNote ansNote odsRun ansRun odcheckNumber ancheckNumber odfInit anfInit odfCurv anfCurv odfCircle anfCircle odfOther anfOther odfExch anfExch odfStrip anfStrip odlRow anlRow odlNumbers anlNumbers odlBase anlBase odlMoved anlMoved odlOther anlOther odlExch anlExch odlAt anlAt odlWord anlWord odlDouble anlDouble odlEighths anlEighths odlAddress anlAddress odup anup odlaw anlaw : Option Addr} {slnL slnN slnF slisCircle slcheckCircle sldouble sloutward sltouch slcheckWord slfourAt slfoursAlong slgreaterPlace slwayDown slrootOf slboundedRoot slsInit slsNote slsRun slcheckNumber slfInit slfCurv slfCircle slfOther slfExch slfStrip sllRow sllNumbers sllBase sllMoved sllOther sllExch sllAt sllWord sllDouble sllEighths sllAddress slup sllaw : Array (Option Value)} {ocisCircle dcisCircle pmisCircle cdisCircle ctisCircle kVisCircle occheckCircle dccheckCircle pmcheckCircle cdcheckCircle ctcheckCircle kVcheckCircle ocdouble dcdouble pmdouble cddouble ctdouble kVdouble ocoutward dcoutward pmoutward cdoutward ctoutward kVoutward octouch dctouch pmtouch cdtouch cttouch kVtouch occheckWord dccheckWord pmcheckWord cdcheckWord ctcheckWord kVcheckWord ocfourAt dcfourAt pmfourAt cdfourAt ctfourAt kVfourAt ocfoursAlong dcfoursAlong pmfoursAlong cdfoursAlong ctfoursAlong kVfoursAlong ocgreaterPlace dcgreaterPlace pmgreaterPlace cdgreaterPlace ctgreaterPlace kVgreaterPlace ocwayDown dcwayDown pmwayDown cdwayDown ctwayDown kVwayDown ocrootOf dcrootOf pmrootOf cdrootOf ctrootOf kVrootOf ocboundedRoot dcboundedRoot pmboundedRoot cdboundedRoot ctboundedRoot kVboundedRoot ocsInit dcsInit pmsInit cdsInit ctsInit kVsInit ocsNote dcsNote pmsNote cdsNote ctsNote kVsNote ocsRun dcsRun pmsRun cdsRun ctsRun kVsRun occheckNumber dccheckNumber pmcheckNumber cdcheckNumber ctcheckNumber kVcheckNumber ocfInit dcfInit pmfInit cdfInit ctfInit kVfInit ocfCurv dcfCurv pmfCurv cdfCurv ctfCurv kVfCurv ocfCircle dcfCircle pmfCircle cdfCircle ctfCircle kVfCircle ocfOther dcfOther pmfOther cdfOther ctfOther kVfOther ocfExch dcfExch pmfExch cdfExch ctfExch kVfExch ocfStrip dcfStrip pmfStrip cdfStrip ctfStrip kVfStrip oclRow dclRow pmlRow cdlRow ctlRow kVlRow oclNumbers dclNumbers pmlNumbers cdlNumbers ctlNumbers kVlNumbers oclBase dclBase pmlBase cdlBase ctlBase kVlBase oclMoved dclMoved pmlMoved cdlMoved ctlMoved kVlMoved oclOther dclOther pmlOther cdlOther ctlOther kVlOther oclExch dclExch pmlExch cdlExch ctlExch kVlExch oclAt dclAt pmlAt cdlAt ctlAt kVlAt oclWord dclWord pmlWord cdlWord ctlWord kVlWord oclDouble dclDouble pmlDouble cdlDouble ctlDouble kVlDouble oclEighths dclEighths pmlEighths cdlEighths ctlEighths kVlEighths oclAddress dclAddress pmlAddress cdlAddress ctlAddress kVlAddress ocup dcup pmup cdup ctup oclaw dclaw pmlaw cdlaw ctlaw kVlaw : Value} {tknL0 tknL1 tknL2 tknL3 tknN0 tknN1 tknN2 tknN3 tknF0 tknF1 tknF2 tknF3 tkup : Tok} {nnL nnN nnF : Nat} (X : K.In h) (G : h.Ns mainGlobals mg) (hfa : mg "law" = some (.ref fa))
    (aF : PySem.W.nsIn K mainGlobals "Four" = some (some (.ref cF)))
    (pgF : PySem.W.plainGet K cF Str.empty = true)
    (hdF : PySem.W.hasDictIn K cF = true)
    (poF : PySem.W.plainOver K cF = true)
    (saF : PySem.W.findIn K (.ref cF) "__setattr__" = some (some (.builtin "object.__setattr__")))
    (mkF : PySem.W.makesIn K cF = true)
    (kcF : PySem.W.keepIn K (.ref cF) = true)
    (aS : PySem.W.nsIn K mainGlobals "Search" = some (some (.ref cS)))
    (pgS : PySem.W.plainGet K cS Str.empty = true)
    (hdS : PySem.W.hasDictIn K cS = true)
    (poS : PySem.W.plainOver K cS = true)
    (saS : PySem.W.findIn K (.ref cS) "__setattr__" = some (some (.builtin "object.__setattr__")))
    (mkS : PySem.W.makesIn K cS = true)
    (kcS : PySem.W.keepIn K (.ref cS) = true)
    (nFcircles : PySem.W.findIn K (.ref cF) "circles" = some none)
    (nSmost : PySem.W.findIn K (.ref cS) "most" = some none)
    (nSlimit : PySem.W.findIn K (.ref cS) "limit" = some none)
    (nSfound : PySem.W.findIn K (.ref cS) "found" = some none)
    (nSwaiting : PySem.W.findIn K (.ref cS) "waiting" = some none)
    (zlen : PySem.W.nsIn K mainGlobals "len" = some none)
    (zrange : PySem.W.nsIn K mainGlobals "range" = some none)
    (ztuple : PySem.W.nsIn K mainGlobals "tuple" = some none)
    (zenumerate : PySem.W.nsIn K mainGlobals "enumerate" = some none)
    (zall : PySem.W.nsIn K mainGlobals "all" = some none)
    (zsum : PySem.W.nsIn K mainGlobals "sum" = some none)
    (zzip : PySem.W.nsIn K mainGlobals "zip" = some none)
    (zsorted : PySem.W.nsIn K mainGlobals "sorted" = some none)
    (zset : PySem.W.nsIn K mainGlobals "set" = some none)
    (zint : PySem.W.nsIn K mainGlobals "int" = some none)
    (zabs : PySem.W.nsIn K mainGlobals "abs" = some none)
    (zmax : PySem.W.nsIn K mainGlobals "max" = some none)
    (zisinstance : PySem.W.nsIn K mainGlobals "isinstance" = some none)
    (zbool : PySem.W.nsIn K mainGlobals "bool" = some none)
    (anL : PySem.W.nsIn K mainGlobals "LETTERS" = some (some (.ref nL)))
    (lnL : K.lookup nL = some ⟨.type "tuple", ddnL, .seq #[.int 1 tknL0, .int 2 tknL1, .int 3 tknL2, .int 4 tknL3] nnL, slnL⟩)
    (anN : PySem.W.nsIn K mainGlobals "NUMBERS_lists" = some (some (.ref nN)))
    (lnN : K.lookup nN = some ⟨.type "tuple", ddnN, .seq #[.int 1 tknN0, .int 2 tknN1, .int 3 tknN2, .int 4 tknN3] nnN, slnN⟩)
    (anF : PySem.W.nsIn K mainGlobals "NUMBERS_fours" = some (some (.ref nF)))
    (lnF : K.lookup nF = some ⟨.type "tuple", ddnF, .seq #[.int 1 tknF0, .int 2 tknF1, .int 3 tknF2, .int 4 tknF3] nnF, slnF⟩)
    (aisCircle : PySem.W.nsIn K mainGlobals "is_circle" = some (some (.ref fisCircle)))
    (lisCircle : K.lookup fisCircle = some ⟨ocisCircle, odisCircle, .func (PySem.W.fnOf "is_circle" "is_circle" (defArgs s_isCircle) (defBody s_isCircle) (defScope s_isCircle) .none kVisCircle dcisCircle pmisCircle anisCircle cdisCircle ctisCircle), slisCircle⟩)
    (cisCircle : PySem.W.codeIn K cdisCircle "is_circle" = true)
    (kisCircle : PySem.W.keepIn K (.ref fisCircle) = true)
    (acheckCircle : PySem.W.nsIn K mainGlobals "check_circle" = some (some (.ref fcheckCircle)))
    (lcheckCircle : K.lookup fcheckCircle = some ⟨occheckCircle, odcheckCircle, .func (PySem.W.fnOf "check_circle" "check_circle" (defArgs s_checkCircle) (defBody s_checkCircle) (defScope s_checkCircle) .none kVcheckCircle dccheckCircle pmcheckCircle ancheckCircle cdcheckCircle ctcheckCircle), slcheckCircle⟩)
    (ccheckCircle : PySem.W.codeIn K cdcheckCircle "check_circle" = true)
    (kcheckCircle : PySem.W.keepIn K (.ref fcheckCircle) = true)
    (adouble : PySem.W.nsIn K mainGlobals "double" = some (some (.ref fdouble)))
    (ldouble : K.lookup fdouble = some ⟨ocdouble, oddouble, .func (PySem.W.fnOf "double" "double" (defArgs s_double) (defBody s_double) (defScope s_double) .none kVdouble dcdouble pmdouble andouble cddouble ctdouble), sldouble⟩)
    (cdouble : PySem.W.codeIn K cddouble "double" = true)
    (kdouble : PySem.W.keepIn K (.ref fdouble) = true)
    (aoutward : PySem.W.nsIn K mainGlobals "are_outward" = some (some (.ref foutward)))
    (loutward : K.lookup foutward = some ⟨ocoutward, odoutward, .func (PySem.W.fnOf "are_outward" "are_outward" (defArgs s_outward) (defBody s_outward) (defScope s_outward) .none kVoutward dcoutward pmoutward anoutward cdoutward ctoutward), sloutward⟩)
    (coutward : PySem.W.codeIn K cdoutward "are_outward" = true)
    (koutward : PySem.W.keepIn K (.ref foutward) = true)
    (atouch : PySem.W.nsIn K mainGlobals "touch" = some (some (.ref ftouch)))
    (ltouch : K.lookup ftouch = some ⟨octouch, odtouch, .func (PySem.W.fnOf "touch" "touch" (defArgs s_touch) (defBody s_touch) (defScope s_touch) .none kVtouch dctouch pmtouch antouch cdtouch cttouch), sltouch⟩)
    (ctouch : PySem.W.codeIn K cdtouch "touch" = true)
    (ktouch : PySem.W.keepIn K (.ref ftouch) = true)
    (acheckWord : PySem.W.nsIn K mainGlobals "check_word" = some (some (.ref fcheckWord)))
    (lcheckWord : K.lookup fcheckWord = some ⟨occheckWord, odcheckWord, .func (PySem.W.fnOf "check_word" "check_word" (defArgs s_checkWord) (defBody s_checkWord) (defScope s_checkWord) .none kVcheckWord dccheckWord pmcheckWord ancheckWord cdcheckWord ctcheckWord), slcheckWord⟩)
    (ccheckWord : PySem.W.codeIn K cdcheckWord "check_word" = true)
    (kcheckWord : PySem.W.keepIn K (.ref fcheckWord) = true)
    (afourAt : PySem.W.nsIn K mainGlobals "four_at" = some (some (.ref ffourAt)))
    (lfourAt : K.lookup ffourAt = some ⟨ocfourAt, odfourAt, .func (PySem.W.fnOf "four_at" "four_at" (defArgs s_fourAt) (defBody s_fourAt) (defScope s_fourAt) .none kVfourAt dcfourAt pmfourAt anfourAt cdfourAt ctfourAt), slfourAt⟩)
    (cfourAt : PySem.W.codeIn K cdfourAt "four_at" = true)
    (kfourAt : PySem.W.keepIn K (.ref ffourAt) = true)
    (afoursAlong : PySem.W.nsIn K mainGlobals "fours_along" = some (some (.ref ffoursAlong)))
    (lfoursAlong : K.lookup ffoursAlong = some ⟨ocfoursAlong, odfoursAlong, .func (PySem.W.fnOf "fours_along" "fours_along" (defArgs s_foursAlong) (defBody s_foursAlong) (defScope s_foursAlong) .none kVfoursAlong dcfoursAlong pmfoursAlong anfoursAlong cdfoursAlong ctfoursAlong), slfoursAlong⟩)
    (cfoursAlong : PySem.W.codeIn K cdfoursAlong "fours_along" = true)
    (kfoursAlong : PySem.W.keepIn K (.ref ffoursAlong) = true)
    (agreaterPlace : PySem.W.nsIn K mainGlobals "greater_place" = some (some (.ref fgreaterPlace)))
    (lgreaterPlace : K.lookup fgreaterPlace = some ⟨ocgreaterPlace, odgreaterPlace, .func (PySem.W.fnOf "greater_place" "greater_place" (defArgs s_greaterPlace) (defBody s_greaterPlace) (defScope s_greaterPlace) .none kVgreaterPlace dcgreaterPlace pmgreaterPlace angreaterPlace cdgreaterPlace ctgreaterPlace), slgreaterPlace⟩)
    (cgreaterPlace : PySem.W.codeIn K cdgreaterPlace "greater_place" = true)
    (kgreaterPlace : PySem.W.keepIn K (.ref fgreaterPlace) = true)
    (awayDown : PySem.W.nsIn K mainGlobals "way_down" = some (some (.ref fwayDown)))
    (lwayDown : K.lookup fwayDown = some ⟨ocwayDown, odwayDown, .func (PySem.W.fnOf "way_down" "way_down" (defArgs s_wayDown) (defBody s_wayDown) (defScope s_wayDown) .none kVwayDown dcwayDown pmwayDown anwayDown cdwayDown ctwayDown), slwayDown⟩)
    (cwayDown : PySem.W.codeIn K cdwayDown "way_down" = true)
    (kwayDown : PySem.W.keepIn K (.ref fwayDown) = true)
    (arootOf : PySem.W.nsIn K mainGlobals "root_of" = some (some (.ref frootOf)))
    (lrootOf : K.lookup frootOf = some ⟨ocrootOf, odrootOf, .func (PySem.W.fnOf "root_of" "root_of" (defArgs s_rootOf) (defBody s_rootOf) (defScope s_rootOf) .none kVrootOf dcrootOf pmrootOf anrootOf cdrootOf ctrootOf), slrootOf⟩)
    (crootOf : PySem.W.codeIn K cdrootOf "root_of" = true)
    (krootOf : PySem.W.keepIn K (.ref frootOf) = true)
    (aboundedRoot : PySem.W.nsIn K mainGlobals "bounded_root" = some (some (.ref fboundedRoot)))
    (lboundedRoot : K.lookup fboundedRoot = some ⟨ocboundedRoot, odboundedRoot, .func (PySem.W.fnOf "bounded_root" "bounded_root" (defArgs s_boundedRoot) (defBody s_boundedRoot) (defScope s_boundedRoot) .none kVboundedRoot dcboundedRoot pmboundedRoot anboundedRoot cdboundedRoot ctboundedRoot), slboundedRoot⟩)
    (cboundedRoot : PySem.W.codeIn K cdboundedRoot "bounded_root" = true)
    (kboundedRoot : PySem.W.keepIn K (.ref fboundedRoot) = true)
    (asInit : PySem.W.findIn K (.ref cS) "__init__" = some (some (.ref fsInit)))
    (isInit : PySem.W.isFn K (.ref fsInit) = true)
    (lsInit : K.lookup fsInit = some ⟨ocsInit, odsInit, .func (PySem.W.fnOf "__init__" "Search.__init__" (defArgs s_sInit) (defBody s_sInit) (defScope s_sInit) .none kVsInit dcsInit pmsInit ansInit cdsInit ctsInit), slsInit⟩)
    (csInit : PySem.W.codeIn K cdsInit "Search.__init__" = true)
    (ksInit : PySem.W.keepIn K (.ref fsInit) = true)
    (asNote : PySem.W.findIn K (.ref cS) "note" = some (some (.ref fsNote)))
    (isNote : PySem.W.isFn K (.ref fsNote) = true)
    (lsNote : K.lookup fsNote = some ⟨ocsNote, odsNote, .func (PySem.W.fnOf "note" "Search.note" (defArgs s_sNote) (defBody s_sNote) (defScope s_sNote) .none kVsNote dcsNote pmsNote ansNote cdsNote ctsNote), slsNote⟩)
    (csNote : PySem.W.codeIn K cdsNote "Search.note" = true)
    (ksNote : PySem.W.keepIn K (.ref fsNote) = true)
    (asRun : PySem.W.findIn K (.ref cS) "run" = some (some (.ref fsRun)))
    (isRun : PySem.W.isFn K (.ref fsRun) = true)
    (lsRun : K.lookup fsRun = some ⟨ocsRun, odsRun, .func (PySem.W.fnOf "run" "Search.run" (defArgs s_sRun) (defBody s_sRun) (defScope s_sRun) .none kVsRun dcsRun pmsRun ansRun cdsRun ctsRun), slsRun⟩)
    (csRun : PySem.W.codeIn K cdsRun "Search.run" = true)
    (ksRun : PySem.W.keepIn K (.ref fsRun) = true)
    (acheckNumber : PySem.W.nsIn K mainGlobals "check_number" = some (some (.ref fcheckNumber)))
    (lcheckNumber : K.lookup fcheckNumber = some ⟨occheckNumber, odcheckNumber, .func (PySem.W.fnOf "check_number" "check_number" (defArgs s_checkNumber) (defBody s_checkNumber) (defScope s_checkNumber) .none kVcheckNumber dccheckNumber pmcheckNumber ancheckNumber cdcheckNumber ctcheckNumber), slcheckNumber⟩)
    (ccheckNumber : PySem.W.codeIn K cdcheckNumber "check_number" = true)
    (kcheckNumber : PySem.W.keepIn K (.ref fcheckNumber) = true)
    (afInit : PySem.W.findIn K (.ref cF) "__init__" = some (some (.ref ffInit)))
    (ifInit : PySem.W.isFn K (.ref ffInit) = true)
    (lfInit : K.lookup ffInit = some ⟨ocfInit, odfInit, .func (PySem.W.fnOf "__init__" "Four.__init__" (defArgs s_fInit) (defBody s_fInit) (defScope s_fInit) .none kVfInit dcfInit pmfInit anfInit cdfInit ctfInit), slfInit⟩)
    (cfInit : PySem.W.codeIn K cdfInit "Four.__init__" = true)
    (kfInit : PySem.W.keepIn K (.ref ffInit) = true)
    (afCurv : PySem.W.findIn K (.ref cF) "curvatures" = some (some (.ref ffCurv)))
    (ifCurv : PySem.W.isFn K (.ref ffCurv) = true)
    (lfCurv : K.lookup ffCurv = some ⟨ocfCurv, odfCurv, .func (PySem.W.fnOf "curvatures" "Four.curvatures" (defArgs s_fCurv) (defBody s_fCurv) (defScope s_fCurv) .none kVfCurv dcfCurv pmfCurv anfCurv cdfCurv ctfCurv), slfCurv⟩)
    (cfCurv : PySem.W.codeIn K cdfCurv "Four.curvatures" = true)
    (kfCurv : PySem.W.keepIn K (.ref ffCurv) = true)
    (afCircle : PySem.W.findIn K (.ref cF) "circle" = some (some (.ref ffCircle)))
    (ifCircle : PySem.W.isFn K (.ref ffCircle) = true)
    (lfCircle : K.lookup ffCircle = some ⟨ocfCircle, odfCircle, .func (PySem.W.fnOf "circle" "Four.circle" (defArgs s_fCircle) (defBody s_fCircle) (defScope s_fCircle) .none kVfCircle dcfCircle pmfCircle anfCircle cdfCircle ctfCircle), slfCircle⟩)
    (cfCircle : PySem.W.codeIn K cdfCircle "Four.circle" = true)
    (kfCircle : PySem.W.keepIn K (.ref ffCircle) = true)
    (afOther : PySem.W.findIn K (.ref cF) "other" = some (some (.ref ffOther)))
    (ifOther : PySem.W.isFn K (.ref ffOther) = true)
    (lfOther : K.lookup ffOther = some ⟨ocfOther, odfOther, .func (PySem.W.fnOf "other" "Four.other" (defArgs s_fOther) (defBody s_fOther) (defScope s_fOther) .none kVfOther dcfOther pmfOther anfOther cdfOther ctfOther), slfOther⟩)
    (cfOther : PySem.W.codeIn K cdfOther "Four.other" = true)
    (kfOther : PySem.W.keepIn K (.ref ffOther) = true)
    (afExch : PySem.W.findIn K (.ref cF) "exchanged" = some (some (.ref ffExch)))
    (ifExch : PySem.W.isFn K (.ref ffExch) = true)
    (lfExch : K.lookup ffExch = some ⟨ocfExch, odfExch, .func (PySem.W.fnOf "exchanged" "Four.exchanged" (defArgs s_fExch) (defBody s_fExch) (defScope s_fExch) .none kVfExch dcfExch pmfExch anfExch cdfExch ctfExch), slfExch⟩)
    (cfExch : PySem.W.codeIn K cdfExch "Four.exchanged" = true)
    (kfExch : PySem.W.keepIn K (.ref ffExch) = true)
    (afStrip : PySem.W.findIn K (.ref cF) "is_strip" = some (some (.ref ffStrip)))
    (ifStrip : PySem.W.isFn K (.ref ffStrip) = true)
    (lfStrip : K.lookup ffStrip = some ⟨ocfStrip, odfStrip, .func (PySem.W.fnOf "is_strip" "Four.is_strip" (defArgs s_fStrip) (defBody s_fStrip) (defScope s_fStrip) .none kVfStrip dcfStrip pmfStrip anfStrip cdfStrip ctfStrip), slfStrip⟩)
    (cfStrip : PySem.W.codeIn K cdfStrip "Four.is_strip" = true)
    (kfStrip : PySem.W.keepIn K (.ref ffStrip) = true)
    (alRow : PySem.W.nsIn K mainGlobals "_law_row" = some (some (.ref flRow)))
    (llRow : K.lookup flRow = some ⟨oclRow, odlRow, .func (PySem.W.fnOf "_law_row" "_law_row" (defArgs s_lRow) (defBody s_lRow) (defScope s_lRow) .none kVlRow dclRow pmlRow anlRow cdlRow ctlRow), sllRow⟩)
    (clRow : PySem.W.codeIn K cdlRow "_law_row" = true)
    (klRow : PySem.W.keepIn K (.ref flRow) = true)
    (alNumbers : PySem.W.nsIn K mainGlobals "_law_numbers" = some (some (.ref flNumbers)))
    (llNumbers : K.lookup flNumbers = some ⟨oclNumbers, odlNumbers, .func (PySem.W.fnOf "_law_numbers" "_law_numbers" (defArgs s_lNumbers) (defBody s_lNumbers) (defScope s_lNumbers) .none kVlNumbers dclNumbers pmlNumbers anlNumbers cdlNumbers ctlNumbers), sllNumbers⟩)
    (clNumbers : PySem.W.codeIn K cdlNumbers "_law_numbers" = true)
    (klNumbers : PySem.W.keepIn K (.ref flNumbers) = true)
    (alBase : PySem.W.nsIn K mainGlobals "_law_base" = some (some (.ref flBase)))
    (llBase : K.lookup flBase = some ⟨oclBase, odlBase, .func (PySem.W.fnOf "_law_base" "_law_base" (defArgs s_lBase) (defBody s_lBase) (defScope s_lBase) .none kVlBase dclBase pmlBase anlBase cdlBase ctlBase), sllBase⟩)
    (clBase : PySem.W.codeIn K cdlBase "_law_base" = true)
    (klBase : PySem.W.keepIn K (.ref flBase) = true)
    (alMoved : PySem.W.nsIn K mainGlobals "_law_moved" = some (some (.ref flMoved)))
    (llMoved : K.lookup flMoved = some ⟨oclMoved, odlMoved, .func (PySem.W.fnOf "_law_moved" "_law_moved" (defArgs s_lMoved) (defBody s_lMoved) (defScope s_lMoved) .none kVlMoved dclMoved pmlMoved anlMoved cdlMoved ctlMoved), sllMoved⟩)
    (clMoved : PySem.W.codeIn K cdlMoved "_law_moved" = true)
    (klMoved : PySem.W.keepIn K (.ref flMoved) = true)
    (alOther : PySem.W.nsIn K mainGlobals "_law_other" = some (some (.ref flOther)))
    (llOther : K.lookup flOther = some ⟨oclOther, odlOther, .func (PySem.W.fnOf "_law_other" "_law_other" (defArgs s_lOther) (defBody s_lOther) (defScope s_lOther) .none kVlOther dclOther pmlOther anlOther cdlOther ctlOther), sllOther⟩)
    (clOther : PySem.W.codeIn K cdlOther "_law_other" = true)
    (klOther : PySem.W.keepIn K (.ref flOther) = true)
    (alExch : PySem.W.nsIn K mainGlobals "_law_exchanged" = some (some (.ref flExch)))
    (llExch : K.lookup flExch = some ⟨oclExch, odlExch, .func (PySem.W.fnOf "_law_exchanged" "_law_exchanged" (defArgs s_lExch) (defBody s_lExch) (defScope s_lExch) .none kVlExch dclExch pmlExch anlExch cdlExch ctlExch), sllExch⟩)
    (clExch : PySem.W.codeIn K cdlExch "_law_exchanged" = true)
    (klExch : PySem.W.keepIn K (.ref flExch) = true)
    (alAt : PySem.W.nsIn K mainGlobals "_law_at" = some (some (.ref flAt)))
    (llAt : K.lookup flAt = some ⟨oclAt, odlAt, .func (PySem.W.fnOf "_law_at" "_law_at" (defArgs s_lAt) (defBody s_lAt) (defScope s_lAt) .none kVlAt dclAt pmlAt anlAt cdlAt ctlAt), sllAt⟩)
    (clAt : PySem.W.codeIn K cdlAt "_law_at" = true)
    (klAt : PySem.W.keepIn K (.ref flAt) = true)
    (alWord : PySem.W.nsIn K mainGlobals "_law_word" = some (some (.ref flWord)))
    (llWord : K.lookup flWord = some ⟨oclWord, odlWord, .func (PySem.W.fnOf "_law_word" "_law_word" (defArgs s_lWord) (defBody s_lWord) (defScope s_lWord) .none kVlWord dclWord pmlWord anlWord cdlWord ctlWord), sllWord⟩)
    (clWord : PySem.W.codeIn K cdlWord "_law_word" = true)
    (klWord : PySem.W.keepIn K (.ref flWord) = true)
    (alDouble : PySem.W.nsIn K mainGlobals "_law_double" = some (some (.ref flDouble)))
    (llDouble : K.lookup flDouble = some ⟨oclDouble, odlDouble, .func (PySem.W.fnOf "_law_double" "_law_double" (defArgs s_lDouble) (defBody s_lDouble) (defScope s_lDouble) .none kVlDouble dclDouble pmlDouble anlDouble cdlDouble ctlDouble), sllDouble⟩)
    (clDouble : PySem.W.codeIn K cdlDouble "_law_double" = true)
    (klDouble : PySem.W.keepIn K (.ref flDouble) = true)
    (alEighths : PySem.W.nsIn K mainGlobals "_law_eighths" = some (some (.ref flEighths)))
    (llEighths : K.lookup flEighths = some ⟨oclEighths, odlEighths, .func (PySem.W.fnOf "_law_eighths" "_law_eighths" (defArgs s_lEighths) (defBody s_lEighths) (defScope s_lEighths) .none kVlEighths dclEighths pmlEighths anlEighths cdlEighths ctlEighths), sllEighths⟩)
    (clEighths : PySem.W.codeIn K cdlEighths "_law_eighths" = true)
    (klEighths : PySem.W.keepIn K (.ref flEighths) = true)
    (alAddress : PySem.W.nsIn K mainGlobals "_law_address" = some (some (.ref flAddress)))
    (llAddress : K.lookup flAddress = some ⟨oclAddress, odlAddress, .func (PySem.W.fnOf "_law_address" "_law_address" (defArgs s_lAddress) (defBody s_lAddress) (defScope s_lAddress) .none kVlAddress dclAddress pmlAddress anlAddress cdlAddress ctlAddress), sllAddress⟩)
    (clAddress : PySem.W.codeIn K cdlAddress "_law_address" = true)
    (klAddress : PySem.W.keepIn K (.ref flAddress) = true)
    (aup : PySem.W.nsIn K mainGlobals "circles_up_to" = some (some (.ref fup)))
    (lup : K.lookup fup = some ⟨ocup, odup, .func (PySem.W.fnOf "circles_up_to" "circles_up_to" (defArgs s_circlesUpTo) (defBody s_circlesUpTo) (defScope s_circlesUpTo) .none (.ref Dup) dcup pmup anup cdup ctup), slup⟩)
    (cup : PySem.W.codeIn K cdup "circles_up_to" = true)
    (kup : PySem.W.keepIn K (.ref fup) = true)
    (dup : PySem.W.nsIn K Dup "limit" = some (some (.int 2000 tkup)))
    (alaw : PySem.W.nsIn K mainGlobals "law" = some (some (.ref flaw)))
    (llaw : K.lookup flaw = some ⟨oclaw, odlaw, .func (PySem.W.fnOf "law" "law" (defArgs s_law) (defBody s_law) (defScope s_law) .none kVlaw dclaw pmlaw anlaw cdlaw ctlaw), sllaw⟩)
    (claw : PySem.W.codeIn K cdlaw "law" = true)
    (klaw : PySem.W.keepIn K (.ref flaw) = true)
    : ∃ (fd : FuncData) (_ : Txt K mg), Fun K "law" "law" s_law fa fd ∧ (∀ (s : Shared) (v : Value), BindsTo s fd ⟨[v], []⟩ [("_law_script", v)]) := by
  have e := hfa.symm.trans (PySem.W.mg_of X G alaw)
  cases e
  have FisCircle := fun_mk (st := s_isCircle) lisCircle cisCircle kisCircle
  have yisCircle := FisCircle.binds (ps := ["circle"]) fun _ _ _ _ _ _ us hl => match us, hl with | [_], _ => rfl
  have FcheckCircle := fun_mk (st := s_checkCircle) lcheckCircle ccheckCircle kcheckCircle
  have ycheckCircle := FcheckCircle.binds (ps := ["circle"]) fun _ _ _ _ _ _ us hl => match us, hl with | [_], _ => rfl
  have Fdouble := fun_mk (st := s_double) ldouble cdouble kdouble
  have ydouble := Fdouble.binds (ps := ["one", "other"]) fun _ _ _ _ _ _ us hl => match us, hl with | [_, _], _ => rfl
  have Foutward := fun_mk (st := s_outward) loutward coutward koutward
  have youtward := Foutward.binds (ps := ["one", "other"]) fun _ _ _ _ _ _ us hl => match us, hl with | [_, _], _ => rfl
  have Ftouch := fun_mk (st := s_touch) ltouch ctouch ktouch
  have ytouch := Ftouch.binds (ps := ["one", "other"]) fun _ _ _ _ _ _ us hl => match us, hl with | [_, _], _ => rfl
  have FcheckWord := fun_mk (st := s_checkWord) lcheckWord ccheckWord kcheckWord
  have ycheckWord := FcheckWord.binds (ps := ["word"]) fun _ _ _ _ _ _ us hl => match us, hl with | [_], _ => rfl
  have FfourAt := fun_mk (st := s_fourAt) lfourAt cfourAt kfourAt
  have yfourAt := FfourAt.binds (ps := ["four", "word"]) fun _ _ _ _ _ _ us hl => match us, hl with | [_, _], _ => rfl
  have FfoursAlong := fun_mk (st := s_foursAlong) lfoursAlong cfoursAlong kfoursAlong
  have yfoursAlong := FfoursAlong.binds (ps := ["four", "word"]) fun _ _ _ _ _ _ us hl => match us, hl with | [_, _], _ => rfl
  have FgreaterPlace := fun_mk (st := s_greaterPlace) lgreaterPlace cgreaterPlace kgreaterPlace
  have ygreaterPlace := FgreaterPlace.binds (ps := ["four"]) fun _ _ _ _ _ _ us hl => match us, hl with | [_], _ => rfl
  have FwayDown := fun_mk (st := s_wayDown) lwayDown cwayDown kwayDown
  have ywayDown := FwayDown.binds (ps := ["four"]) fun _ _ _ _ _ _ us hl => match us, hl with | [_], _ => rfl
  have FrootOf := fun_mk (st := s_rootOf) lrootOf crootOf krootOf
  have yrootOf := FrootOf.binds (ps := ["four"]) fun _ _ _ _ _ _ us hl => match us, hl with | [_], _ => rfl
  have FboundedRoot := fun_mk (st := s_boundedRoot) lboundedRoot cboundedRoot kboundedRoot
  have yboundedRoot := FboundedRoot.binds (ps := ["four"]) fun _ _ _ _ _ _ us hl => match us, hl with | [_], _ => rfl
  have FsInit := fun_mk (st := s_sInit) lsInit csInit ksInit
  have ysInit := FsInit.binds (ps := ["self", "root", "most", "limit"]) fun _ _ _ _ _ _ us hl => match us, hl with | [_, _, _, _], _ => rfl
  have FsNote := fun_mk (st := s_sNote) lsNote csNote ksNote
  have ysNote := FsNote.binds (ps := ["self", "circle"]) fun _ _ _ _ _ _ us hl => match us, hl with | [_, _], _ => rfl
  have FsRun := fun_mk (st := s_sRun) lsRun csRun ksRun
  have ysRun := FsRun.binds (ps := ["self"]) fun _ _ _ _ _ _ us hl => match us, hl with | [_], _ => rfl
  have FcheckNumber := fun_mk (st := s_checkNumber) lcheckNumber ccheckNumber kcheckNumber
  have ycheckNumber := FcheckNumber.binds (ps := ["number"]) fun _ _ _ _ _ _ us hl => match us, hl with | [_], _ => rfl
  have FfInit := fun_mk (st := s_fInit) lfInit cfInit kfInit
  have yfInit := FfInit.binds (ps := ["self", "circles"]) fun _ _ _ _ _ _ us hl => match us, hl with | [_, _], _ => rfl
  have FfCurv := fun_mk (st := s_fCurv) lfCurv cfCurv kfCurv
  have yfCurv := FfCurv.binds (ps := ["self"]) fun _ _ _ _ _ _ us hl => match us, hl with | [_], _ => rfl
  have FfCircle := fun_mk (st := s_fCircle) lfCircle cfCircle kfCircle
  have yfCircle := FfCircle.binds (ps := ["self", "number"]) fun _ _ _ _ _ _ us hl => match us, hl with | [_, _], _ => rfl
  have FfOther := fun_mk (st := s_fOther) lfOther cfOther kfOther
  have yfOther := FfOther.binds (ps := ["self", "number"]) fun _ _ _ _ _ _ us hl => match us, hl with | [_, _], _ => rfl
  have FfExch := fun_mk (st := s_fExch) lfExch cfExch kfExch
  have yfExch := FfExch.binds (ps := ["self", "number"]) fun _ _ _ _ _ _ us hl => match us, hl with | [_, _], _ => rfl
  have FfStrip := fun_mk (st := s_fStrip) lfStrip cfStrip kfStrip
  have yfStrip := FfStrip.binds (ps := ["self"]) fun _ _ _ _ _ _ us hl => match us, hl with | [_], _ => rfl
  have FlRow := fun_mk (st := s_lRow) llRow clRow klRow
  have ylRow := FlRow.binds (ps := ["_law_cell", "_law_many"]) fun _ _ _ _ _ _ us hl => match us, hl with | [_, _], _ => rfl
  have FlNumbers := fun_mk (st := s_lNumbers) llNumbers clNumbers klNumbers
  have ylNumbers := FlNumbers.binds (ps := ["_law_script", "_law_many"]) fun _ _ _ _ _ _ us hl => match us, hl with | [_, _], _ => rfl
  have FlBase := fun_mk (st := s_lBase) llBase clBase klBase
  have ylBase := FlBase.binds (ps := ["_law_number"]) fun _ _ _ _ _ _ us hl => match us, hl with | [_], _ => rfl
  have FlMoved := fun_mk (st := s_lMoved) llMoved clMoved klMoved
  have ylMoved := FlMoved.binds (ps := ["_law_circle", "_law_s", "_law_t", "_law_turns", "_law_mirror"]) fun _ _ _ _ _ _ us hl => match us, hl with | [_, _, _, _, _], _ => rfl
  have FlOther := fun_mk (st := s_lOther) llOther clOther klOther
  have ylOther := FlOther.binds (ps := ["_law_four_here", "_law_number"]) fun _ _ _ _ _ _ us hl => match us, hl with | [_, _], _ => rfl
  have FlExch := fun_mk (st := s_lExch) llExch clExch klExch
  have ylExch := FlExch.binds (ps := ["_law_four_here", "_law_number"]) fun _ _ _ _ _ _ us hl => match us, hl with | [_, _], _ => rfl
  have FlAt := fun_mk (st := s_lAt) llAt clAt klAt
  have ylAt := FlAt.binds (ps := ["_law_four_here", "_law_word_here"]) fun _ _ _ _ _ _ us hl => match us, hl with | [_, _], _ => rfl
  have FlWord := fun_mk (st := s_lWord) llWord clWord klWord
  have ylWord := FlWord.binds (ps := ["_law_numbers_here", "_law_at_here", "_law_many"]) fun _ _ _ _ _ _ us hl => match us, hl with | [_, _, _], _ => rfl
  have FlDouble := fun_mk (st := s_lDouble) llDouble clDouble klDouble
  have ylDouble := FlDouble.binds (ps := ["_law_one", "_law_other_here"]) fun _ _ _ _ _ _ us hl => match us, hl with | [_, _], _ => rfl
  have FlEighths := fun_mk (st := s_lEighths) llEighths clEighths klEighths
  have ylEighths := FlEighths.binds (ps := ["_law_four_here", "_law_circle"]) fun _ _ _ _ _ _ us hl => match us, hl with | [_, _], _ => rfl
  have FlAddress := fun_mk (st := s_lAddress) llAddress clAddress klAddress
  have ylAddress := FlAddress.binds (ps := ["_law_four_here", "_law_circle"]) fun _ _ _ _ _ _ us hl => match us, hl with | [_, _], _ => rfl
  have Fup : FunD K "circles_up_to" "circles_up_to" (defArgs s_circlesUpTo) (defBody s_circlesUpTo) (defScope s_circlesUpTo) [] [("limit", .int 2000)] fup _ := ⟨⟨ocup, odup, .none, .ref Dup, dcup, pmup, anup, cdup, ctup, slup, rfl, lup, cup, .inl ⟨rfl, rfl⟩, .inr ⟨Dup, rfl, fun q hq => by
    obtain rfl := List.mem_singleton.mp hq
    exact ⟨_, dup, _, rfl⟩⟩⟩, kup⟩
  obtain ⟨ds, vds, yup⟩ := Fup.binds0 (ps := ["four", "most", "limit"]) 2 (by simp) rfl (fun _ _ _ _ _ _ us ks hl hk => match us, hl, ks, hk with | [_, _], _, [_], _ => ⟨_, _, _, _, _, _, rfl, rfl, rfl⟩)
  have sqnL : ∀ H : Hp, SqT K H nL [.int 1, .int 2, .int 3, .int 4] := fun H => .inr ⟨_, _, _, lnL, rfl, rfl, (by show 4 ≤ sizeLine; decide), .cons ⟨_, rfl⟩ (.cons ⟨_, rfl⟩ (.cons ⟨_, rfl⟩ (.cons ⟨_, rfl⟩ .nil)))⟩
  have sqnN : ∀ H : Hp, SqT K H nN [.int 1, .int 2, .int 3, .int 4] := fun H => .inr ⟨_, _, _, lnN, rfl, rfl, (by show 4 ≤ sizeLine; decide), .cons ⟨_, rfl⟩ (.cons ⟨_, rfl⟩ (.cons ⟨_, rfl⟩ (.cons ⟨_, rfl⟩ .nil)))⟩
  have sqnF : ∀ H : Hp, SqT K H nF [.int 1, .int 2, .int 3, .int 4] := fun H => .inr ⟨_, _, _, lnF, rfl, rfl, (by show 4 ≤ sizeLine; decide), .cons ⟨_, rfl⟩ (.cons ⟨_, rfl⟩ (.cons ⟨_, rfl⟩ (.cons ⟨_, rfl⟩ .nil)))⟩
  refine ⟨_, {
    cF := cF
    clF := ⟨pgF, hdF, poF, saF⟩
    gcF := PySem.W.mg_of X G aF
    cS := cS
    clS := ⟨pgS, hdS, poS, saS⟩
    gcS := PySem.W.mg_of X G aS
    naC := nFcircles
    na_most := nSmost
    na_limit := nSlimit
    na_found := nSfound
    na_waiting := nSwaiting
    b_len := PySem.W.mg_none_of X G zlen
    b_range := PySem.W.mg_none_of X G zrange
    b_tuple := PySem.W.mg_none_of X G ztuple
    b_enumerate := PySem.W.mg_none_of X G zenumerate
    b_all := PySem.W.mg_none_of X G zall
    b_sum := PySem.W.mg_none_of X G zsum
    b_zip := PySem.W.mg_none_of X G zzip
    b_sorted := PySem.W.mg_none_of X G zsorted
    b_set := PySem.W.mg_none_of X G zset
    b_int := PySem.W.mg_none_of X G zint
    b_abs := PySem.W.mg_none_of X G zabs
    b_max := PySem.W.mg_none_of X G zmax
    b_isinstance := PySem.W.mg_none_of X G zisinstance
    b_bool := PySem.W.mg_none_of X G zbool
    nL := nL
    g_nL := PySem.W.mg_of X G anL
    sq_nL := sqnL
    kt_nL := ⟨_, lnL, rfl⟩
    nN := nN
    g_nN := PySem.W.mg_of X G anN
    sq_nN := sqnN
    kt_nN := ⟨_, lnN, rfl⟩
    nF := nF
    g_nF := PySem.W.mg_of X G anF
    sq_nF := sqnF
    kt_nF := ⟨_, lnF, rfl⟩
    f_isCircle := fisCircle
    d_isCircle := _
    F_isCircle := FisCircle
    y_isCircle := yisCircle
    g_isCircle := PySem.W.mg_of X G aisCircle
    f_checkCircle := fcheckCircle
    d_checkCircle := _
    F_checkCircle := FcheckCircle
    y_checkCircle := ycheckCircle
    g_checkCircle := PySem.W.mg_of X G acheckCircle
    f_double := fdouble
    d_double := _
    F_double := Fdouble
    y_double := ydouble
    g_double := PySem.W.mg_of X G adouble
    f_outward := foutward
    d_outward := _
    F_outward := Foutward
    y_outward := youtward
    g_outward := PySem.W.mg_of X G aoutward
    f_touch := ftouch
    d_touch := _
    F_touch := Ftouch
    y_touch := ytouch
    g_touch := PySem.W.mg_of X G atouch
    f_checkWord := fcheckWord
    d_checkWord := _
    F_checkWord := FcheckWord
    y_checkWord := ycheckWord
    g_checkWord := PySem.W.mg_of X G acheckWord
    f_fourAt := ffourAt
    d_fourAt := _
    F_fourAt := FfourAt
    y_fourAt := yfourAt
    g_fourAt := PySem.W.mg_of X G afourAt
    f_foursAlong := ffoursAlong
    d_foursAlong := _
    F_foursAlong := FfoursAlong
    y_foursAlong := yfoursAlong
    g_foursAlong := PySem.W.mg_of X G afoursAlong
    f_greaterPlace := fgreaterPlace
    d_greaterPlace := _
    F_greaterPlace := FgreaterPlace
    y_greaterPlace := ygreaterPlace
    g_greaterPlace := PySem.W.mg_of X G agreaterPlace
    f_wayDown := fwayDown
    d_wayDown := _
    F_wayDown := FwayDown
    y_wayDown := ywayDown
    g_wayDown := PySem.W.mg_of X G awayDown
    f_rootOf := frootOf
    d_rootOf := _
    F_rootOf := FrootOf
    y_rootOf := yrootOf
    g_rootOf := PySem.W.mg_of X G arootOf
    f_boundedRoot := fboundedRoot
    d_boundedRoot := _
    F_boundedRoot := FboundedRoot
    y_boundedRoot := yboundedRoot
    g_boundedRoot := PySem.W.mg_of X G aboundedRoot
    f_sInit := fsInit
    d_sInit := _
    F_sInit := FsInit
    y_sInit := ysInit
    m_sInit := ⟨mkS, asInit, isInit, kcS⟩
    f_sNote := fsNote
    d_sNote := _
    F_sNote := FsNote
    y_sNote := ysNote
    m_sNote := ⟨asNote, isNote, ksNote⟩
    f_sRun := fsRun
    d_sRun := _
    F_sRun := FsRun
    y_sRun := ysRun
    m_sRun := ⟨asRun, isRun, ksRun⟩
    f_checkNumber := fcheckNumber
    d_checkNumber := _
    F_checkNumber := FcheckNumber
    y_checkNumber := ycheckNumber
    g_checkNumber := PySem.W.mg_of X G acheckNumber
    f_fInit := ffInit
    d_fInit := _
    F_fInit := FfInit
    y_fInit := yfInit
    m_fInit := ⟨mkF, afInit, ifInit, kcF⟩
    f_fCurv := ffCurv
    d_fCurv := _
    F_fCurv := FfCurv
    y_fCurv := yfCurv
    m_fCurv := ⟨afCurv, ifCurv, kfCurv⟩
    f_fCircle := ffCircle
    d_fCircle := _
    F_fCircle := FfCircle
    y_fCircle := yfCircle
    m_fCircle := ⟨afCircle, ifCircle, kfCircle⟩
    f_fOther := ffOther
    d_fOther := _
    F_fOther := FfOther
    y_fOther := yfOther
    m_fOther := ⟨afOther, ifOther, kfOther⟩
    f_fExch := ffExch
    d_fExch := _
    F_fExch := FfExch
    y_fExch := yfExch
    m_fExch := ⟨afExch, ifExch, kfExch⟩
    f_fStrip := ffStrip
    d_fStrip := _
    F_fStrip := FfStrip
    y_fStrip := yfStrip
    m_fStrip := ⟨afStrip, ifStrip, kfStrip⟩
    f_lRow := flRow
    d_lRow := _
    F_lRow := FlRow
    y_lRow := ylRow
    g_lRow := PySem.W.mg_of X G alRow
    f_lNumbers := flNumbers
    d_lNumbers := _
    F_lNumbers := FlNumbers
    y_lNumbers := ylNumbers
    g_lNumbers := PySem.W.mg_of X G alNumbers
    f_lBase := flBase
    d_lBase := _
    F_lBase := FlBase
    y_lBase := ylBase
    g_lBase := PySem.W.mg_of X G alBase
    f_lMoved := flMoved
    d_lMoved := _
    F_lMoved := FlMoved
    y_lMoved := ylMoved
    g_lMoved := PySem.W.mg_of X G alMoved
    f_lOther := flOther
    d_lOther := _
    F_lOther := FlOther
    y_lOther := ylOther
    g_lOther := PySem.W.mg_of X G alOther
    f_lExch := flExch
    d_lExch := _
    F_lExch := FlExch
    y_lExch := ylExch
    g_lExch := PySem.W.mg_of X G alExch
    f_lAt := flAt
    d_lAt := _
    F_lAt := FlAt
    y_lAt := ylAt
    g_lAt := PySem.W.mg_of X G alAt
    f_lWord := flWord
    d_lWord := _
    F_lWord := FlWord
    y_lWord := ylWord
    g_lWord := PySem.W.mg_of X G alWord
    f_lDouble := flDouble
    d_lDouble := _
    F_lDouble := FlDouble
    y_lDouble := ylDouble
    g_lDouble := PySem.W.mg_of X G alDouble
    f_lEighths := flEighths
    d_lEighths := _
    F_lEighths := FlEighths
    y_lEighths := ylEighths
    g_lEighths := PySem.W.mg_of X G alEighths
    f_lAddress := flAddress
    d_lAddress := _
    F_lAddress := FlAddress
    y_lAddress := ylAddress
    g_lAddress := PySem.W.mg_of X G alAddress
    f_up := fup
    d_up := _
    F_up := Fup
    ds_up := ds
    v_up := vds
    y_up := yup
    g_up := PySem.W.mg_of X G aup }, fun_mk (st := s_law) llaw claw klaw, fun s v => .of_eq rfl⟩
end K51
open PySem PySem.W PyProof.Rows in
set_option maxRecDepth 100000 in
set_option maxHeartbeats 0 in
theorem PySem.Challenge.cw_fourtouch_k51_whole_no_other_circle_holds : PySem.Challenge.rw_fourtouch_k51_whole_no_other_circle.Holds := by
  w_on; o_law; k_head; (case hw => w_witness2)
  k_fill
  refine L2.walk_of (l := PySem.Challenge.rw_fourtouch_k51_whole_no_other_circle) (n := 63) (k := 20) (x := "_law_script") (CX := fun _ => L2.CX0) (sp := fun w => K51.spLaw _) rfl (by decide) rfl ⟨rfl, by decide, by decide⟩ (fun w h Y => PySem.W.kIn_of Y) ?F (fun _ _ a ns hl _ hS => ⟨a, ns, rfl, hS, hl, fun _ => rfl⟩) (fun _ _ _ _ _ h => h)
  case F =>
    intro w mg fa h KX G hmg
    suffices ht : ∃ (fd : FuncData) (_ : K51.Txt _ mg), L2.Fun _ "law" "law" K51.s_law fa fd ∧ (∀ (s : Shared) (v : Value), BindsTo s fd ⟨[v], []⟩ [("_law_script", v)]) by
      obtain ⟨fd, T, F, B⟩ := ht
      exact ⟨fd, B, fun base _ _ => K51.ok_law T F⟩
    refine' K51.all_mk KX G hmg ?aF ?pgF ?hdF ?poF ?saF ?mkF ?kcF ?aS ?pgS ?hdS ?poS ?saS ?mkS ?kcS ?nFcircles ?nSmost ?nSlimit ?nSfound ?nSwaiting ?zlen ?zrange ?ztuple ?zenumerate ?zall ?zsum ?zzip ?zsorted ?zset ?zint ?zabs ?zmax ?zisinstance ?zbool ?anL ?lnL ?anN ?lnN ?anF ?lnF ?aisCircle ?lisCircle ?cisCircle ?kisCircle ?acheckCircle ?lcheckCircle ?ccheckCircle ?kcheckCircle ?adouble ?ldouble ?cdouble ?kdouble ?aoutward ?loutward ?coutward ?koutward ?atouch ?ltouch ?ctouch ?ktouch ?acheckWord ?lcheckWord ?ccheckWord ?kcheckWord ?afourAt ?lfourAt ?cfourAt ?kfourAt ?afoursAlong ?lfoursAlong ?cfoursAlong ?kfoursAlong ?agreaterPlace ?lgreaterPlace ?cgreaterPlace ?kgreaterPlace ?awayDown ?lwayDown ?cwayDown ?kwayDown ?arootOf ?lrootOf ?crootOf ?krootOf ?aboundedRoot ?lboundedRoot ?cboundedRoot ?kboundedRoot ?asInit ?isInit ?lsInit ?csInit ?ksInit ?asNote ?isNote ?lsNote ?csNote ?ksNote ?asRun ?isRun ?lsRun ?csRun ?ksRun ?acheckNumber ?lcheckNumber ?ccheckNumber ?kcheckNumber ?afInit ?ifInit ?lfInit ?cfInit ?kfInit ?afCurv ?ifCurv ?lfCurv ?cfCurv ?kfCurv ?afCircle ?ifCircle ?lfCircle ?cfCircle ?kfCircle ?afOther ?ifOther ?lfOther ?cfOther ?kfOther ?afExch ?ifExch ?lfExch ?cfExch ?kfExch ?afStrip ?ifStrip ?lfStrip ?cfStrip ?kfStrip ?alRow ?llRow ?clRow ?klRow ?alNumbers ?llNumbers ?clNumbers ?klNumbers ?alBase ?llBase ?clBase ?klBase ?alMoved ?llMoved ?clMoved ?klMoved ?alOther ?llOther ?clOther ?klOther ?alExch ?llExch ?clExch ?klExch ?alAt ?llAt ?clAt ?klAt ?alWord ?llWord ?clWord ?klWord ?alDouble ?llDouble ?clDouble ?klDouble ?alEighths ?llEighths ?clEighths ?klEighths ?alAddress ?llAddress ?clAddress ?klAddress ?aup ?lup ?cup ?kup ?dup ?alaw ?llaw ?claw ?klaw
    (case aF => k_is)
    (case pgF => k_is)
    (case hdF => k_is)
    (case poF => k_is)
    (case saF => k_is)
    (case mkF => k_is)
    (case kcF => k_is)
    (case aS => k_is)
    (case pgS => k_is)
    (case hdS => k_is)
    (case poS => k_is)
    (case saS => k_is)
    (case mkS => k_is)
    (case kcS => k_is)
    (case nFcircles => k_is)
    (case nSmost => k_is)
    (case nSlimit => k_is)
    (case nSfound => k_is)
    (case nSwaiting => k_is)
    (case zlen => k_is)
    (case zrange => k_is)
    (case ztuple => k_is)
    (case zenumerate => k_is)
    (case zall => k_is)
    (case zsum => k_is)
    (case zzip => k_is)
    (case zsorted => k_is)
    (case zset => k_is)
    (case zint => k_is)
    (case zabs => k_is)
    (case zmax => k_is)
    (case zisinstance => k_is)
    (case zbool => k_is)
    (case anL => k_is)
    (case lnL => k_is)
    (case anN => k_is)
    (case lnN => k_is)
    (case anF => k_is)
    (case lnF => k_is)
    (case aisCircle => k_is)
    (case lisCircle => k_is)
    (case cisCircle => k_is)
    (case kisCircle => k_is)
    (case acheckCircle => k_is)
    (case lcheckCircle => k_is)
    (case ccheckCircle => k_is)
    (case kcheckCircle => k_is)
    (case adouble => k_is)
    (case ldouble => k_is)
    (case cdouble => k_is)
    (case kdouble => k_is)
    (case aoutward => k_is)
    (case loutward => k_is)
    (case coutward => k_is)
    (case koutward => k_is)
    (case atouch => k_is)
    (case ltouch => k_is)
    (case ctouch => k_is)
    (case ktouch => k_is)
    (case acheckWord => k_is)
    (case lcheckWord => k_is)
    (case ccheckWord => k_is)
    (case kcheckWord => k_is)
    (case afourAt => k_is)
    (case lfourAt => k_is)
    (case cfourAt => k_is)
    (case kfourAt => k_is)
    (case afoursAlong => k_is)
    (case lfoursAlong => k_is)
    (case cfoursAlong => k_is)
    (case kfoursAlong => k_is)
    (case agreaterPlace => k_is)
    (case lgreaterPlace => k_is)
    (case cgreaterPlace => k_is)
    (case kgreaterPlace => k_is)
    (case awayDown => k_is)
    (case lwayDown => k_is)
    (case cwayDown => k_is)
    (case kwayDown => k_is)
    (case arootOf => k_is)
    (case lrootOf => k_is)
    (case crootOf => k_is)
    (case krootOf => k_is)
    (case aboundedRoot => k_is)
    (case lboundedRoot => k_is)
    (case cboundedRoot => k_is)
    (case kboundedRoot => k_is)
    (case asInit => k_is)
    (case isInit => k_is)
    (case lsInit => k_is)
    (case csInit => k_is)
    (case ksInit => k_is)
    (case asNote => k_is)
    (case isNote => k_is)
    (case lsNote => k_is)
    (case csNote => k_is)
    (case ksNote => k_is)
    (case asRun => k_is)
    (case isRun => k_is)
    (case lsRun => k_is)
    (case csRun => k_is)
    (case ksRun => k_is)
    (case acheckNumber => k_is)
    (case lcheckNumber => k_is)
    (case ccheckNumber => k_is)
    (case kcheckNumber => k_is)
    (case afInit => k_is)
    (case ifInit => k_is)
    (case lfInit => k_is)
    (case cfInit => k_is)
    (case kfInit => k_is)
    (case afCurv => k_is)
    (case ifCurv => k_is)
    (case lfCurv => k_is)
    (case cfCurv => k_is)
    (case kfCurv => k_is)
    (case afCircle => k_is)
    (case ifCircle => k_is)
    (case lfCircle => k_is)
    (case cfCircle => k_is)
    (case kfCircle => k_is)
    (case afOther => k_is)
    (case ifOther => k_is)
    (case lfOther => k_is)
    (case cfOther => k_is)
    (case kfOther => k_is)
    (case afExch => k_is)
    (case ifExch => k_is)
    (case lfExch => k_is)
    (case cfExch => k_is)
    (case kfExch => k_is)
    (case afStrip => k_is)
    (case ifStrip => k_is)
    (case lfStrip => k_is)
    (case cfStrip => k_is)
    (case kfStrip => k_is)
    (case alRow => k_is)
    (case llRow => k_is)
    (case clRow => k_is)
    (case klRow => k_is)
    (case alNumbers => k_is)
    (case llNumbers => k_is)
    (case clNumbers => k_is)
    (case klNumbers => k_is)
    (case alBase => k_is)
    (case llBase => k_is)
    (case clBase => k_is)
    (case klBase => k_is)
    (case alMoved => k_is)
    (case llMoved => k_is)
    (case clMoved => k_is)
    (case klMoved => k_is)
    (case alOther => k_is)
    (case llOther => k_is)
    (case clOther => k_is)
    (case klOther => k_is)
    (case alExch => k_is)
    (case llExch => k_is)
    (case clExch => k_is)
    (case klExch => k_is)
    (case alAt => k_is)
    (case llAt => k_is)
    (case clAt => k_is)
    (case klAt => k_is)
    (case alWord => k_is)
    (case llWord => k_is)
    (case clWord => k_is)
    (case klWord => k_is)
    (case alDouble => k_is)
    (case llDouble => k_is)
    (case clDouble => k_is)
    (case klDouble => k_is)
    (case alEighths => k_is)
    (case llEighths => k_is)
    (case clEighths => k_is)
    (case klEighths => k_is)
    (case alAddress => k_is)
    (case llAddress => k_is)
    (case clAddress => k_is)
    (case klAddress => k_is)
    (case aup => k_is)
    (case lup => k_is)
    (case cup => k_is)
    (case kup => k_is)
    (case dup => k_is)
    (case alaw => k_is)
    (case llaw => k_is)
    (case claw => k_is)
    (case klaw => k_is)
#print axioms PySem.Challenge.cw_fourtouch_k51_whole_no_other_circle_holds
