import PyProof.Rows.All
import Wide.All
import OpenK.AllK
import Wide.FinOn
import HandS.ForMost
import HandS.Defaults
import HandS.IsInst
import HandS.Codes
import HandS.Style
import HandS.Flow
import HandS.Strs
import HandS.SetFor
import HandS.SetKeys
import HandS.OwnEq
import HandS.Nested
import HandS.TupSets
import HandS.Wide
import HandS.WideBits
import HandS.HeadHook4
import HandS.HeadWalk
import HandS.Head2
import HandS.Zip
import HandS.TupAny
import HandS.StrMore
import HandS.Evl
import HandS.Deep
import KE.KDictKeyed
import KE.KDictDisplayH
import KE.SortData
import HandS.Walk
import HandS.Set
import HandS.TupLen
import HandS.More
import PyProof.InstNe
import HandS.Replace
import HandS.NestedK
import HandS.Lambda
import HandS.Conv
import KE.GoesMore
import KE.GoesEnum
import HandS.New
import PySem.Challenge.RW_widefills_k81_whole_readings_and_opened
section
set_option Elab.async false
set_option maxRecDepth 100000
set_option linter.all false
/-! The text by places; short words for the whole proof. -/
namespace K81
open PySem PySem.Spec PyProof.Rows L2
def top (i : Nat) : Stmt := PySem.Challenge.pw_widefills_k81_whole_readings_and_opened.main.body.getD i (.Pass ⟨0, 0, 0, 0⟩)
abbrev sIsInteger : Stmt := top 14
abbrev sIsCount : Stmt := top 15
abbrev sIsList : Stmt := top 16
abbrev sWantAtMost : Stmt := top 17
abbrev sWantLetters : Stmt := top 22
abbrev sIsWordOf : Stmt := top 23
abbrev sWantWord : Stmt := top 24
abbrev sSpots : Stmt := top 25
abbrev sAreSteps : Stmt := top 29
abbrev sAreEnds : Stmt := top 30
abbrev sLedTo : Stmt := top 31
abbrev sParted : Stmt := top 32
abbrev sLeastForm : Stmt := top 33
abbrev sMInit : Stmt := inClass (top 34) 0
abbrev sMEq : Stmt := inClass (top 34) 5
abbrev sLeast : Stmt := top 35
abbrev sWantMachine : Stmt := top 36
abbrev sLed : Stmt := top 37
abbrev sIsEnd : Stmt := top 38
abbrev sIsLet : Stmt := top 39
abbrev sLets : Stmt := top 40
abbrev sByLots : Stmt := top 43
abbrev sWordsMachine : Stmt := top 44
abbrev sOfWords : Stmt := top 45
abbrev sWantViews : Stmt := top 48
abbrev sLetOn : Stmt := top 49
abbrev sOpenedBy : Stmt := top 50
abbrev sOpenedOf : Stmt := top 51
abbrev sReadingsBy : Stmt := top 52
abbrev sReadingsOf : Stmt := top 53
abbrev sOpened : Stmt := top 54
abbrev sPot : Stmt := top 56
abbrev sDraw : Stmt := top 57
abbrev sPick : Stmt := top 58
abbrev sTold : Stmt := top 59
abbrev sDrawn : Stmt := top 60
abbrev sLMachine : Stmt := top 61
abbrev sLSpots : Stmt := top 62
abbrev sLLed : Stmt := top 63
abbrev sLLets : Stmt := top 64
abbrev sLWords : Stmt := top 65
abbrev sWorld : Stmt := top 66
abbrev sReadBy : Stmt := top 67
abbrev sIsOpened : Stmt := top 68
abbrev sOver : Stmt := top 69
abbrev sRight : Stmt := top 70
abbrev sLaw : Stmt := top 71

/-- a def of the top as it stands behind the run of the top -/
abbrev FnP (K : PySem.W.Frag) (x qual : Str) (st : Stmt) (f : Addr) (fd : FuncData) : Prop := FunD K x qual (defArgs st) (defBody st) (defScope st) [] [] f fd

section
variable {P : Program} {w : World} {K : PySem.W.Frag} {mg : Str → Option Value} {base : Heap}
/-- THE RULE for a def that lets no error out -/
theorem FnP_ok {x qual : Str} {st : Stmt} {f : Addr} {fd : FuncData} {N ps : List Str} {k : Nat} {sp : Sp} (F : FnP K x qual st f fd) (S : FnScope N ps (defScope st)) (len : ∀ vs H Q E, sp vs H Q E → vs.length = ps.length)
    (hbody : ∀ (cdv : Value) (A : Around) (outer : List Env) (s : Shared) (H : Hp) (vs : List V) (Q : VK) (E : XK), Room k (A.deeper (envOfC qual (defScope st) s.heap.objs.size f cdv)) → sp vs H Q E →
      ∃ t, PSs (cxOf CX0 P w K mg base N qual (defScope st) f cdv A outer s H E).nox (defBody st) t ∧ t { nx := fun _ H' => Q .non H', rt := Q } (start N vs) H) : FnOk P w K mg base CX0 (k + 1) f fd ps sp :=
  F.ok S len fun cdv A outer s H vs Q E hr h => let ⟨t, d, q⟩ := hbody cdv A outer s H vs Q E hr h; ⟨t, d.nox, q⟩
end

/-- what an arguments' binding asks, by the number of parameters -/
theorem bnd1 {K : PySem.W.Frag} {x qual : Str} {st : Stmt} {f : Addr} {fd : FuncData} {a : Str} (F : FnP K x qual st f fd)
    (h : ∀ (kV doc pm : Value) (an : Option Addr) (cdv ct u : Value), bindArgs (PySem.W.fnOf x qual (defArgs st) (defBody st) (defScope st) .none kV doc pm an cdv ct) ⟨[u], []⟩ = pure [(a, u)]) : Binds K fd [a] [] :=
  F.bindsN fun kV doc pm an cdv ct us hl => match us, hl with | [u], _ => h kV doc pm an cdv ct u
theorem bnd2 {K : PySem.W.Frag} {x qual : Str} {st : Stmt} {f : Addr} {fd : FuncData} {a b : Str} (F : FnP K x qual st f fd)
    (h : ∀ (kV doc pm : Value) (an : Option Addr) (cdv ct u v : Value), bindArgs (PySem.W.fnOf x qual (defArgs st) (defBody st) (defScope st) .none kV doc pm an cdv ct) ⟨[u, v], []⟩ = pure [(a, u), (b, v)]) : Binds K fd [a, b] [] :=
  F.bindsN fun kV doc pm an cdv ct us hl => match us, hl with | [u, v], _ => h kV doc pm an cdv ct u v
theorem bnd3 {K : PySem.W.Frag} {x qual : Str} {st : Stmt} {f : Addr} {fd : FuncData} {a b c : Str} (F : FnP K x qual st f fd)
    (h : ∀ (kV doc pm : Value) (an : Option Addr) (cdv ct u v y : Value), bindArgs (PySem.W.fnOf x qual (defArgs st) (defBody st) (defScope st) .none kV doc pm an cdv ct) ⟨[u, v, y], []⟩ = pure [(a, u), (b, v), (c, y)]) : Binds K fd [a, b, c] [] :=
  F.bindsN fun kV doc pm an cdv ct us hl => match us, hl with | [u, v, y], _ => h kV doc pm an cdv ct u v y
theorem bnd4 {K : PySem.W.Frag} {x qual : Str} {st : Stmt} {f : Addr} {fd : FuncData} {a b c d : Str} (F : FnP K x qual st f fd)
    (h : ∀ (kV doc pm : Value) (an : Option Addr) (cdv ct u v y z : Value), bindArgs (PySem.W.fnOf x qual (defArgs st) (defBody st) (defScope st) .none kV doc pm an cdv ct) ⟨[u, v, y, z], []⟩ = pure [(a, u), (b, v), (c, y), (d, z)]) : Binds K fd [a, b, c, d] [] :=
  F.bindsN fun kV doc pm an cdv ct us hl => match us, hl with | [u, v, y, z], _ => h kV doc pm an cdv ct u v y z

/-! ### lists or tuples -/
def Sq (K : PySem.W.Frag) (H : Hp) (a : Addr) (xs : List V) : Prop := SqL K H a xs ∨ SqT K H a xs
theorem Same.sqT {K : PySem.W.Frag} {H H' : Hp} {a : Addr} {xs : List V} (e : Same H H') (h : SqT K H a xs) : SqT K H' a xs := by
  rcases h with (h | ⟨o, h⟩) | h
  · exact .inl (.inl (e _ _ h))
  · exact .inl (.inr ⟨o, e _ _ h⟩)
  · exact .inr h
theorem Sq.mono {K : PySem.W.Frag} {H H' : Hp} {a : Addr} {xs : List V} (h : Sq K H a xs) (e : Same H H') : Sq K H' a xs := h.imp e.seq (Same.sqT e)
theorem same_new {H : Hp} {p : Addr} {o : HO} (h : H p = none) : Same H (upd H p o) := fun a u e => by
  rw [upd_ne (ne_of_none e h)]
  exact e
/-- a new object changes again -/
theorem same_mut {H H' : Hp} {p : Addr} {o : HO} (e : Same H H') (h : H p = none) : Same H (upd H' p o) := fun a u ha => by
  rw [upd_ne (ne_of_none ha h)]
  exact e a u ha

/-! ### the defs as they stand behind the run of the top -/
def dIsInteger : He.DefD := { at_ := ("is_integer", none), name := "is_integer", qual := "is_integer", params := defArgs sIsInteger, body := defBody sIsInteger, scope := defScope sIsInteger }
def dIsCount : He.DefD := { at_ := ("is_count", none), name := "is_count", qual := "is_count", params := defArgs sIsCount, body := defBody sIsCount, scope := defScope sIsCount }
def dIsList : He.DefD := { at_ := ("is_list", none), name := "is_list", qual := "is_list", params := defArgs sIsList, body := defBody sIsList, scope := defScope sIsList }
def dWantAtMost : He.DefD := { at_ := ("want_at_most", none), name := "want_at_most", qual := "want_at_most", params := defArgs sWantAtMost, body := defBody sWantAtMost, scope := defScope sWantAtMost }
def dWantLetters : He.DefD := { at_ := ("want_letters", none), name := "want_letters", qual := "want_letters", params := defArgs sWantLetters, body := defBody sWantLetters, scope := defScope sWantLetters }
def dIsWordOf : He.DefD := { at_ := ("is_word_of", none), name := "is_word_of", qual := "is_word_of", params := defArgs sIsWordOf, body := defBody sIsWordOf, scope := defScope sIsWordOf }
def dWantWord : He.DefD := { at_ := ("want_word", none), name := "want_word", qual := "want_word", params := defArgs sWantWord, body := defBody sWantWord, scope := defScope sWantWord }
def dSpots : He.DefD := { at_ := ("spots", none), name := "spots", qual := "spots", params := defArgs sSpots, body := defBody sSpots, scope := defScope sSpots }
def dAreSteps : He.DefD := { at_ := ("are_steps", none), name := "are_steps", qual := "are_steps", params := defArgs sAreSteps, body := defBody sAreSteps, scope := defScope sAreSteps }
def dAreEnds : He.DefD := { at_ := ("are_ends", none), name := "are_ends", qual := "are_ends", params := defArgs sAreEnds, body := defBody sAreEnds, scope := defScope sAreEnds }
def dLedTo : He.DefD := { at_ := ("led_to", none), name := "led_to", qual := "led_to", params := defArgs sLedTo, body := defBody sLedTo, scope := defScope sLedTo }
def dParted : He.DefD := { at_ := ("parted", none), name := "parted", qual := "parted", params := defArgs sParted, body := defBody sParted, scope := defScope sParted }
def dLeastForm : He.DefD := { at_ := ("least_form", none), name := "least_form", qual := "least_form", params := defArgs sLeastForm, body := defBody sLeastForm, scope := defScope sLeastForm }
def dMInit : He.DefD := { at_ := ("Machine", some "__init__"), name := "__init__", qual := "Machine.__init__", params := defArgs sMInit, body := defBody sMInit, scope := defScope sMInit }
def dMEq : He.DefD := { at_ := ("Machine", some "__eq__"), name := "__eq__", qual := "Machine.__eq__", params := defArgs sMEq, body := defBody sMEq, scope := defScope sMEq }
def dLeast : He.DefD := { at_ := ("least", none), name := "least", qual := "least", params := defArgs sLeast, body := defBody sLeast, scope := defScope sLeast }
def dWantMachine : He.DefD := { at_ := ("want_machine", none), name := "want_machine", qual := "want_machine", params := defArgs sWantMachine, body := defBody sWantMachine, scope := defScope sWantMachine }
def dLed : He.DefD := { at_ := ("led", none), name := "led", qual := "led", params := defArgs sLed, body := defBody sLed, scope := defScope sLed }
def dIsEnd : He.DefD := { at_ := ("is_end", none), name := "is_end", qual := "is_end", params := defArgs sIsEnd, body := defBody sIsEnd, scope := defScope sIsEnd }
def dIsLet : He.DefD := { at_ := ("is_let", none), name := "is_let", qual := "is_let", params := defArgs sIsLet, body := defBody sIsLet, scope := defScope sIsLet }
def dLets : He.DefD := { at_ := ("lets", none), name := "lets", qual := "lets", params := defArgs sLets, body := defBody sLets, scope := defScope sLets }
def dByLots : He.DefD := { at_ := ("by_lots", none), name := "by_lots", qual := "by_lots", params := defArgs sByLots, body := defBody sByLots, scope := defScope sByLots }
def dWordsMachine : He.DefD := { at_ := ("words_machine", none), name := "words_machine", qual := "words_machine", params := defArgs sWordsMachine, body := defBody sWordsMachine, scope := defScope sWordsMachine }
def dOfWords : He.DefD := { at_ := ("of_words", none), name := "of_words", qual := "of_words", params := defArgs sOfWords, body := defBody sOfWords, scope := defScope sOfWords }
def dWantViews : He.DefD := { at_ := ("want_views", none), name := "want_views", qual := "want_views", params := defArgs sWantViews, body := defBody sWantViews, scope := defScope sWantViews }
def dLetOn : He.DefD := { at_ := ("let_on", none), name := "let_on", qual := "let_on", params := defArgs sLetOn, body := defBody sLetOn, scope := defScope sLetOn }
def dOpenedBy : He.DefD := { at_ := ("opened_by", none), name := "opened_by", qual := "opened_by", params := defArgs sOpenedBy, body := defBody sOpenedBy, scope := defScope sOpenedBy }
def dOpenedOf : He.DefD := { at_ := ("opened_of", none), name := "opened_of", qual := "opened_of", params := defArgs sOpenedOf, body := defBody sOpenedOf, scope := defScope sOpenedOf }
def dReadingsBy : He.DefD := { at_ := ("readings_by", none), name := "readings_by", qual := "readings_by", params := defArgs sReadingsBy, body := defBody sReadingsBy, scope := defScope sReadingsBy }
def dReadingsOf : He.DefD := { at_ := ("readings_of", none), name := "readings_of", qual := "readings_of", params := defArgs sReadingsOf, body := defBody sReadingsOf, scope := defScope sReadingsOf }
def dOpened : He.DefD := { at_ := ("opened", none), name := "opened", qual := "opened", params := defArgs sOpened, body := defBody sOpened, scope := defScope sOpened }
def dPot : He.DefD := { at_ := ("_law_pot", none), name := "_law_pot", qual := "_law_pot", params := defArgs sPot, body := defBody sPot, scope := defScope sPot }
def dDraw : He.DefD := { at_ := ("_law_draw", none), name := "_law_draw", qual := "_law_draw", params := defArgs sDraw, body := defBody sDraw, scope := defScope sDraw }
def dPick : He.DefD := { at_ := ("_law_pick", none), name := "_law_pick", qual := "_law_pick", params := defArgs sPick, body := defBody sPick, scope := defScope sPick }
def dTold : He.DefD := { at_ := ("_law_told", none), name := "_law_told", qual := "_law_told", params := defArgs sTold, body := defBody sTold, scope := defScope sTold }
def dDrawn : He.DefD := { at_ := ("_law_drawn", none), name := "_law_drawn", qual := "_law_drawn", params := defArgs sDrawn, body := defBody sDrawn, scope := defScope sDrawn }
def dLMachine : He.DefD := { at_ := ("_law_machine", none), name := "_law_machine", qual := "_law_machine", params := defArgs sLMachine, body := defBody sLMachine, scope := defScope sLMachine }
def dLSpots : He.DefD := { at_ := ("_law_spots", none), name := "_law_spots", qual := "_law_spots", params := defArgs sLSpots, body := defBody sLSpots, scope := defScope sLSpots }
def dLLed : He.DefD := { at_ := ("_law_led", none), name := "_law_led", qual := "_law_led", params := defArgs sLLed, body := defBody sLLed, scope := defScope sLLed }
def dLLets : He.DefD := { at_ := ("_law_lets", none), name := "_law_lets", qual := "_law_lets", params := defArgs sLLets, body := defBody sLLets, scope := defScope sLLets }
def dLWords : He.DefD := { at_ := ("_law_words", none), name := "_law_words", qual := "_law_words", params := defArgs sLWords, body := defBody sLWords, scope := defScope sLWords }
def dWorld : He.DefD := { at_ := ("_law_world", none), name := "_law_world", qual := "_law_world", params := defArgs sWorld, body := defBody sWorld, scope := defScope sWorld }
def dReadBy : He.DefD := { at_ := ("_law_read_by", none), name := "_law_read_by", qual := "_law_read_by", params := defArgs sReadBy, body := defBody sReadBy, scope := defScope sReadBy }
def dIsOpened : He.DefD := { at_ := ("_law_is_opened", none), name := "_law_is_opened", qual := "_law_is_opened", params := defArgs sIsOpened, body := defBody sIsOpened, scope := defScope sIsOpened }
def dOver : He.DefD := { at_ := ("_law_over", none), name := "_law_over", qual := "_law_over", params := defArgs sOver, body := defBody sOver, scope := defScope sOver }
def dRight : He.DefD := { at_ := ("_law_right", none), name := "_law_right", qual := "_law_right", params := defArgs sRight, body := defBody sRight, scope := defScope sRight }
def dLaw : He.DefD := { at_ := ("law", none), name := "law", qual := "law", params := defArgs sLaw, body := defBody sLaw, scope := defScope sLaw }
def fn : List He.DefD := [dIsInteger, dIsCount, dIsList, dWantAtMost, dWantLetters, dIsWordOf, dWantWord, dSpots, dAreSteps, dAreEnds, dLedTo, dParted, dLeastForm, dMInit, dMEq, dLeast, dWantMachine, dLed, dIsEnd, dIsLet, dLets, dByLots, dWordsMachine, dOfWords, dWantViews] ++ [dLetOn, dOpenedBy, dOpenedOf, dReadingsBy, dReadingsOf, dOpened, dPot, dDraw, dPick, dTold, dDrawn, dLMachine, dLSpots, dLLed, dLLets, dLWords, dWorld, dReadBy, dIsOpened, dOver, dRight, dLaw]
def faG : List Str := (["is_integer", "is_count", "is_list", "want_at_most", "want_letters", "is_word_of", "want_word", "spots", "are_steps", "are_ends", "led_to", "parted", "least_form", "least", "want_machine", "led", "is_end", "is_let", "lets", "by_lots", "words_machine", "of_words", "want_views", "let_on", "opened_by", "opened_of", "readings_by", "readings_of", "opened", "_law_pot"] : List Str) ++ (["_law_draw", "_law_pick", "_law_told", "_law_drawn", "_law_machine", "_law_spots", "_law_led", "_law_lets", "_law_words", "_law_world", "_law_read_by", "_law_is_opened", "_law_over", "_law_right", "law", "Machine"] : List Str)
def faF : List Str := ["len", "sorted", "set", "list", "int", "bool", "str", "isinstance", "tuple", "all", "any", "enumerate", "range", "abs", "max", "divmod"]
def faX : List He.Fa := [.int "MOST_LETTERS" 3, .int "MOST_SIGNS" 60, .int "MOST_GIVEN" 12, .int "MOST_STATES" 60, .int "MOST_WORDS" 20, .int "MOST_VIEWS" 3, .str "SIGNS" "abc", .cls "Machine", .noat "Machine" "own_letters", .noat "Machine" "own_steps", .noat "Machine" "own_ends", .meth "Machine" "__eq__", .mkr "Machine", .glo "Machine"]
def fa : List He.Fa := faG.map He.Fa.glo ++ (faF.map He.Fa.free ++ faX)
def tf : List He.Defn := [("words_machine", none), ("opened_by", none)]

def ex (K : PySem.W.Frag) : Bool := decide (PySem.W.kitOne K (.ref (He.ga K "Machine")) (.ref (He.ga K "Machine")) = some true) && (decide (PySem.W.findIn K (.ref (He.ga K "Machine")) "__class__" = some (some (.builtin "object.__class__"))) &&
  (decide (PySem.W.specialIn K (.builtin "object.__class__") "__get__" = some (some (.builtin "getset_descriptor.__get__"))) && (decide (PySem.W.takesIn K (.builtin "object.__class__") = some true) && (decide (PySem.W.mroIn K (He.ga K "Machine") (.type "object") = some true) &&
  decide (PySem.W.findIn K (.ref (He.ga K "Machine")) "__ne__" = some (some (.builtin "object.__ne__")))))))
/-- the class -/
abbrev mC (K : PySem.W.Frag) : Addr := He.ga K "Machine"
abbrev mInit (K : PySem.W.Frag) : Addr := He.ma K (mC K) "__init__"
abbrev mEq (K : PySem.W.Frag) : Addr := He.ma K (mC K) "__eq__"
/-- what the walk asks of the top as it was run -/
structure Txt (K : PySem.W.Frag) (mg : Str → Option Value) : Prop where
  d : ∀ (i : Nat) {d : He.DefD}, fn[i]? = some d → ∃ fd, FunD K d.name d.qual d.params d.body d.scope (d.dvs K) (d.kws K) (He.fAd K d.at_) fd
  g : ∀ (i : Nat) {x : Str}, faG[i]? = some x → mg x = some (.ref (He.ga K x))
  f : ∀ (i : Nat) {x : Str}, faF[i]? = some x → mg x = none
  i3 : ∃ t, mg "MOST_LETTERS" = some (.int 3 t)
  i60 : ∃ t, mg "MOST_SIGNS" = some (.int 60 t)
  i12 : ∃ t, mg "MOST_GIVEN" = some (.int 12 t)
  iS : ∃ t, mg "MOST_STATES" = some (.int 60 t)
  i20 : ∃ t, mg "MOST_WORDS" = some (.int 20 t)
  iV : ∃ t, mg "MOST_VIEWS" = some (.int 3 t)
  signs : ∃ t, mg "SIGNS" = some (.str "abc" t)
  cl : Cls K (mC K)
  nL : NoAttr K (mC K) "own_letters"
  nS : NoAttr K (mC K) "own_steps"
  nE : NoAttr K (mC K) "own_ends"
  me : Meth K (mC K) "__eq__" (mEq K)
  mkr : Mk K (mC K) (mInit K)
  ins : C8.InsC K (mC K)
  gM : mg "Machine" = some (.ref (mC K))
  ne : PySem.W.findIn K (.ref (mC K)) "__ne__" = some (some (.builtin "object.__ne__"))
theorem txt_of {K : PySem.W.Frag} {mg : Str → Option Value} {h : Heap} (X : K.In h) (G : h.Ns mainGlobals mg) (c : He.SaysD fa fn K) (e : ex K = true) : Txt K mg where
  d := fun i d hd => c.def_ i hd
  g := fun i x hx => by
    have m : He.Fa.glo x ∈ fa := List.mem_append.mpr (.inl (List.mem_map.mpr ⟨x, List.mem_of_getElem? hx, rfl⟩))
    exact He.glo_ok X G (c.facts m)
  f := fun i x hx => by
    have m : He.Fa.free x ∈ fa := List.mem_append.mpr (.inr (List.mem_append.mpr (.inl (List.mem_map.mpr ⟨x, List.mem_of_getElem? hx, rfl⟩))))
    exact He.free_ok X G (c.facts m)
  i3 := He.int_ok X G (c.facts (f := .int "MOST_LETTERS" 3) (List.mem_append.mpr (.inr (List.mem_append.mpr (.inr (List.mem_of_getElem? (i := 0) rfl))))))
  i60 := He.int_ok X G (c.facts (f := .int "MOST_SIGNS" 60) (List.mem_append.mpr (.inr (List.mem_append.mpr (.inr (List.mem_of_getElem? (i := 1) rfl))))))
  i12 := He.int_ok X G (c.facts (f := .int "MOST_GIVEN" 12) (List.mem_append.mpr (.inr (List.mem_append.mpr (.inr (List.mem_of_getElem? (i := 2) rfl))))))
  iS := He.int_ok X G (c.facts (f := .int "MOST_STATES" 60) (List.mem_append.mpr (.inr (List.mem_append.mpr (.inr (List.mem_of_getElem? (i := 3) rfl))))))
  i20 := He.int_ok X G (c.facts (f := .int "MOST_WORDS" 20) (List.mem_append.mpr (.inr (List.mem_append.mpr (.inr (List.mem_of_getElem? (i := 4) rfl))))))
  iV := He.int_ok X G (c.facts (f := .int "MOST_VIEWS" 3) (List.mem_append.mpr (.inr (List.mem_append.mpr (.inr (List.mem_of_getElem? (i := 5) rfl))))))
  signs := He.str_ok X G (c.facts (f := .str "SIGNS" "abc") (List.mem_append.mpr (.inr (List.mem_append.mpr (.inr (List.mem_of_getElem? (i := 6) rfl))))))
  cl := He.cls_ok (c.facts (f := .cls "Machine") (List.mem_append.mpr (.inr (List.mem_append.mpr (.inr (List.mem_of_getElem? (i := 7) rfl))))))
  nL := He.noat_ok (c.facts (f := .noat "Machine" "own_letters") (List.mem_append.mpr (.inr (List.mem_append.mpr (.inr (List.mem_of_getElem? (i := 8) rfl))))))
  nS := He.noat_ok (c.facts (f := .noat "Machine" "own_steps") (List.mem_append.mpr (.inr (List.mem_append.mpr (.inr (List.mem_of_getElem? (i := 9) rfl))))))
  nE := He.noat_ok (c.facts (f := .noat "Machine" "own_ends") (List.mem_append.mpr (.inr (List.mem_append.mpr (.inr (List.mem_of_getElem? (i := 10) rfl))))))
  me := He.meth_ok (c.facts (f := .meth "Machine" "__eq__") (List.mem_append.mpr (.inr (List.mem_append.mpr (.inr (List.mem_of_getElem? (i := 11) rfl))))))
  mkr := He.mkr_ok (c.facts (f := .mkr "Machine") (List.mem_append.mpr (.inr (List.mem_append.mpr (.inr (List.mem_of_getElem? (i := 12) rfl))))))
  ins := by
    unfold ex at e
    simp only [Bool.and_eq_true, decide_eq_true_eq] at e
    obtain ⟨e1, e2, e3, e4, e5, e6⟩ := e
    exact ⟨He.cls_ok (c.facts (f := .cls "Machine") (List.mem_append.mpr (.inr (List.mem_append.mpr (.inr (List.mem_of_getElem? (i := 7) rfl)))))), e2, e3, e4, e5, e1⟩
  gM := He.glo_ok X G (c.facts (f := .glo "Machine") (List.mem_append.mpr (.inr (List.mem_append.mpr (.inr (List.mem_of_getElem? (i := 13) rfl))))))
  ne := by
    unfold ex at e
    simp only [Bool.and_eq_true, decide_eq_true_eq] at e
    exact e.2.2.2.2.2
/-- a def of the top that may be called by its name -/
structure Cal (P : Program) (w : World) (K : PySem.W.Frag) (mg : Str → Option Value) (base : Heap) (k : Nat) (x : Str) (ps : List Str) (sp : Sp) : Prop where
  ex : ∃ fd, FnOk P w K mg base CX0 k (He.ga K x) fd ps sp ∧ Binds K fd ps [] ∧ PySem.W.keepIn K (.ref (He.ga K x)) = true ∧ mg x = some (.ref (He.ga K x))
section
variable {X : Cx} {k j : Nat} {x : Str} {ps : List Str} {sp : Sp} {p pos : Pos} {e : Expr} {es : List Expr} {t : TA}
theorem pe_c (c : Cal X.prog X.w X.K X.mg X.base k x ps sp) (hr : Room j X.A) (hk : k ≤ j) (ha : PA X (e :: es) t) (hg : Gl X x := by rfl) (hdb : (x == ("__debug__" : Str)) = false := by decide)
    (he : starEach (e :: es) X.env = (false, eval e X.env) :: starEach es X.env := by rfl) (hpl : (backTo pos (starEach es X.env)).any (·.1) = false := by rfl) : PE X (.Call (.Name x p) (e :: es) [] pos) (tCall sp [] E0 t) := by
  obtain ⟨fd, F, b, kp, hm⟩ := c.ex
  exact pe_call F (hr.mono hk) hg hm kp b .nil pass0 ha hdb he hpl
end
section
variable {P : Program} {w : World} {K : PySem.W.Frag} {mg : Str → Option Value} {base : Heap}
/-- THE RULE for a def of the top: its place among the defs, its place among the names, its body -/
theorem cal (st : Stmt) {x : Str} {N ps : List Str} {k : Nat} {sp : Sp} (T : Txt K mg) (i j : Nat) (hd : fn[i]? = some { at_ := (x, none), name := x, qual := x, params := defArgs st, body := defBody st, scope := defScope st }) (hg : faG[j]? = some x) (S : FnScope N ps (defScope st))
    (bnd : ∀ (kV doc pm : Value) (an : Option Addr) (cdv ct : Value) (us : List Value), us.length = ps.length → bindArgs (PySem.W.fnOf x x (defArgs st) (defBody st) (defScope st) .none kV doc pm an cdv ct) ⟨us, []⟩ = pure (ps.zip us))
    (len : ∀ vs H Q E, sp vs H Q E → vs.length = ps.length)
    (hbody : ∀ (cdv : Value) (A : Around) (outer : List Env) (s : Shared) (H : Hp) (vs : List V) (Q : VK) (E : XK), Room k (A.deeper (envOfC x (defScope st) s.heap.objs.size (He.ga K x) cdv)) → sp vs H Q E →
      ∃ t, PSs (cxOf CX0 P w K mg base N x (defScope st) (He.ga K x) cdv A outer s H E).nox (defBody st) t ∧ t { nx := fun _ H' => Q .non H', rt := Q } (start N vs) H) : Cal P w K mg base (k + 1) x ps sp := by
  obtain ⟨fd, F0⟩ := T.d i hd
  have F : FnP K x x st (He.ga K x) fd := F0
  exact ⟨fd, FnP_ok F S len hbody, F.bindsN bnd, F.kp, T.g j hg⟩
theorem Cal.mono {j k : Nat} {x : Str} {ps : List Str} {sp : Sp} (c : Cal P w K mg base j x ps sp) (h : j ≤ k) : Cal P w K mg base k x ps sp := by
  obtain ⟨fd, F, r⟩ := c.ex
  exact ⟨fd, F.mono h, r⟩
theorem Cal.imp {k : Nat} {x : Str} {ps : List Str} {sp sp' : Sp} (c : Cal P w K mg base k x ps sp) (h : ∀ vs H Q E, sp' vs H Q E → sp vs H Q E) : Cal P w K mg base k x ps sp' := by
  obtain ⟨fd, F, r⟩ := c.ex
  exact ⟨fd, F.imp h, r⟩
end
section
variable {X : Cx} {x : Str} {pos : Pos}
/-- a built-in class as a value -/
theorem pe_ty {n : String} (hm : X.mg x = none) (hv : bootBuiltins x = some (.type n)) (hg : Gl X x := by rfl) (hn : x ≠ "__name__" := by decide) (hd : (x == ("__debug__" : Str)) = false := by decide) : PE X (.Name x pos) (tC (.ty n)) := pe_bltn (v := .ty n) hg hm hv rfl hn hd
/-- a number, a text of the module -/
theorem pe_gint {i : Int} (h : ∃ t, X.mg x = some (.int i t)) (hg : Gl X x := by rfl) (hd : (x == ("__debug__" : Str)) = false := by decide) : PE X (.Name x pos) (tC (.int i)) := by
  obtain ⟨t, e⟩ := h
  exact pe_glob (v := .int i) hg e ⟨t, rfl⟩ hd
theorem pe_gstr {z : Str} (h : ∃ t, X.mg x = some (.str z t)) (hg : Gl X x := by rfl) (hd : (x == ("__debug__" : Str)) = false := by decide) : PE X (.Name x pos) (tC (.str z)) := by
  obtain ⟨t, e⟩ := h
  exact pe_glob (v := .str z) hg e ⟨t, rfl⟩ hd
theorem pe_gcls {K : PySem.W.Frag} {a : Addr} (e : X.mg x = some (.ref a)) (hg : Gl X x := by rfl) (hd : (x == ("__debug__" : Str)) = false := by decide) : PE X (.Name x pos) (tC (.ref a)) := pe_glob (v := .ref a) hg e rfl hd
end
theorem vbT {p : Prop} [Decidable p] (h : p) : V.bl (decide p) = V.bl true := congrArg V.bl (decide_eq_true h)
theorem vbF {p : Prop} [Decidable p] (h : ¬ p) : V.bl (decide p) = V.bl false := congrArg V.bl (decide_eq_false h)
theorem kit_ll {K : PySem.W.Frag} : PySem.W.kitAny K (.type "list") [.type "list", .type "tuple"] = some true := kitAny_cons (b := true) (kit_ty (by decide +kernel)) (fun z => nomatch z) (fun _ => rfl)
theorem kit_tl {K : PySem.W.Frag} : PySem.W.kitAny K (.type "tuple") [.type "list", .type "tuple"] = some true := kitAny_cons (b := false) (kit_ty (by decide +kernel)) (fun _ => kitAny_cons (b := true) (kit_ty (by decide +kernel)) (fun z => nomatch z) (fun _ => rfl)) (fun z => nomatch z)
end K81
end
section
set_option Elab.async false
set_option linter.all false
set_option maxRecDepth 100000
set_option maxHeartbeats 0
/-! The head: what the run of the top leaves, by facts of names. -/
namespace K81
open PySem PySem.Spec PyProof.Rows L2
abbrev hdR : PySem.W.OpenRow := PySem.W.OpenLaw.row PySem.Challenge.rw_widefills_k81_whole_readings_and_opened
abbrev hdK : PySem.W.Hook := He.hookX 5 fa fn [] tf ex
def hdO (s : PySem.W.SharedT) : He.AlX := He.obsX 5 fa fn [] tf ex (HandSHeadRun.getT s)
theorem hdOeq (s : PySem.W.SharedT) : hdO s = hdK.obs s.abs := He.obsX_eq (HandSHeadRun.getT_eq s)
def hdLoose : List Str := (["FillError", "StateError", "LimitError", "InvalidLetters", "InvalidMachine", "InvalidViews", "InvalidWord", "InvalidEnds", "InvalidSteps", "InvalidWords", "UnlikeLetters", "TooMany", "is_integer", "is_count", "is_list", "want_at_most", "SIGNS", "MOST_LETTERS", "MOST_SIGNS", "want_letters"] : List Str) ++ ((["is_word_of", "want_word", "spots", "MOST_GIVEN", "MOST_STATES", "are_steps", "are_ends", "led_to", "parted", "least_form", "Machine", "least", "want_machine", "led", "is_end", "is_let", "lets", "MOST_WORDS", "by_lots", "words_machine"] : List Str) ++ ((["of_words", "MOST_VIEWS", "want_views", "let_on", "opened_by", "opened_of", "readings_by", "readings_of", "opened", "_law_pot", "_law_draw", "_law_pick", "_law_told", "_law_drawn", "_law_machine", "_law_spots", "_law_led", "_law_lets", "_law_words", "_law_world"] : List Str) ++ ((["_law_read_by", "_law_is_opened", "_law_over", "_law_right"] : List Str))))
theorem hdRun (w : World) : HandSHeadRun.RunEq hdR (PySem.W.view hdR.prog [71]) hdK hdO 5200 hdLoose w := by
  intro os
  kernel_rfl
end K81
end
section
set_option Elab.async false
set_option maxRecDepth 100000
set_option linter.all false
/-! Searches in breadth over any type; the canonical machine of a language. -/
namespace K81M
/-! ### the search -/
section
variable {A : Type} [DecidableEq A]
def addAll : List A → List A → List A
  | o, [] => o
  | o, x :: xs => addAll (if x ∈ o then o else o ++ [x]) xs
inductive Bfs (next : A → List A) : List A → Nat → List A → Prop
  | done {o : List A} {n : Nat} : o.length ≤ n → Bfs next o n o
  | step {o r : List A} {n : Nat} {x : A} : o[n]? = some x → Bfs next (addAll o (next x)) (n + 1) r → Bfs next o n r
theorem addAll_cons (o : List A) (x : A) (xs : List A) : addAll o (x :: xs) = addAll (if x ∈ o then o else o ++ [x]) xs := rfl
theorem addAll_append (xs ys : List A) : ∀ o : List A, addAll o (xs ++ ys) = addAll (addAll o xs) ys := by
  induction xs with
  | nil => intro o; rfl
  | cons x xs ih => intro o; rw [List.cons_append, addAll_cons, addAll_cons, ih]
theorem addAll_pre (xs : List A) : ∀ o : List A, ∃ t, addAll o xs = o ++ t := by
  induction xs with
  | nil => intro o; exact ⟨[], (List.append_nil o).symm⟩
  | cons x xs ih =>
    intro o
    rw [addAll_cons]
    obtain ⟨t, ht⟩ := ih (if x ∈ o then o else o ++ [x])
    by_cases h : x ∈ o
    · rw [if_pos h] at ht ⊢
      exact ⟨t, ht⟩
    · rw [if_neg h] at ht ⊢
      exact ⟨x :: t, by rw [ht]; simp⟩
theorem addAll_mem (xs : List A) : ∀ (o : List A) (y : A), y ∈ addAll o xs ↔ y ∈ o ∨ y ∈ xs := by
  induction xs with
  | nil => intro o y; simp [addAll]
  | cons x xs ih =>
    intro o y
    rw [addAll_cons, ih]
    by_cases h : x ∈ o
    · rw [if_pos h]
      constructor
      · rintro (a | a)
        · exact .inl a
        · exact .inr (List.mem_cons_of_mem _ a)
      · rintro (a | a)
        · exact .inl a
        · rcases List.mem_cons.mp a with e | a
          · rw [e]; exact .inl h
          · exact .inr a
    · rw [if_neg h, List.mem_append, List.mem_singleton, List.mem_cons, or_assoc]
theorem addAll_nodup (xs : List A) : ∀ o : List A, o.Nodup → (addAll o xs).Nodup := by
  induction xs with
  | nil => intro o h; exact h
  | cons x xs ih =>
    intro o h
    rw [addAll_cons]
    refine ih _ ?_
    by_cases hx : x ∈ o
    · rw [if_pos hx]; exact h
    · rw [if_neg hx]
      refine List.nodup_append.mpr ⟨h, List.nodup_cons.mpr ⟨by simp, List.nodup_nil⟩, fun a ha b hb => ?_⟩
      rw [List.mem_singleton] at hb
      subst hb
      rintro rfl
      exact hx ha
variable {next : A → List A}
theorem Bfs.det {o r r' : List A} {n : Nat} (h : Bfs next o n r) : Bfs next o n r' → r = r' := by
  induction h with
  | @done o n hl =>
    intro h'
    cases h' with
    | done => rfl
    | step e _ => rw [List.getElem?_eq_none hl] at e; cases e
  | @step o r n x e _ ih =>
    intro h'
    cases h' with
    | done hl => rw [List.getElem?_eq_none hl] at e; cases e
    | step e' h' =>
      rw [e] at e'
      cases e'
      exact ih h'
theorem Bfs.pre {o r : List A} {n : Nat} (h : Bfs next o n r) : ∃ t, r = o ++ t := by
  induction h with
  | done => exact ⟨[], (List.append_nil _).symm⟩
  | @step o r n x e _ ih =>
    obtain ⟨t, ht⟩ := ih
    obtain ⟨u, hu⟩ := addAll_pre (next x) o
    exact ⟨u ++ t, by rw [ht, hu, List.append_assoc]⟩
theorem Bfs.sub {o r : List A} {n : Nat} (h : Bfs next o n r) {y : A} (hy : y ∈ o) : y ∈ r := by
  obtain ⟨t, rfl⟩ := h.pre
  exact List.mem_append_left _ hy
theorem Bfs.nodup {o r : List A} {n : Nat} (h : Bfs next o n r) : o.Nodup → r.Nodup := by
  induction h with
  | done => exact id
  | step _ _ ih => exact fun a => ih (addAll_nodup _ _ a)
/-- what holds of the first and of what comes next holds of all -/
theorem Bfs.all {C : A → Prop} (hC : ∀ x, C x → ∀ y ∈ next x, C y) {o r : List A} {n : Nat} (h : Bfs next o n r) : (∀ x ∈ o, C x) → ∀ x ∈ r, C x := by
  induction h with
  | done => exact id
  | @step o r n x e _ ih =>
    intro ho
    refine ih fun y hy => ?_
    rcases (addAll_mem _ _ _).mp hy with a | a
    · exact ho y a
    · exact hC x (ho x (List.mem_of_getElem? e)) y a
/-- closed behind -/
theorem Bfs.closed {o r : List A} {n : Nat} (h : Bfs next o n r) : (∀ i x, i < n → o[i]? = some x → ∀ y ∈ next x, y ∈ o) → ∀ x ∈ r, ∀ y ∈ next x, y ∈ r := by
  induction h with
  | @done o n hl =>
    intro ho x hx y hy
    obtain ⟨i, hi⟩ := List.mem_iff_getElem?.mp hx
    have hlt : i < o.length := (List.getElem?_eq_some_iff.mp hi).1
    exact ho i x (by omega) hi y hy
  | @step o r n x e _ ih =>
    intro ho
    refine ih fun i z hi hz y hy => ?_
    have hn : n < o.length := (List.getElem?_eq_some_iff.mp e).1
    obtain ⟨u, hu⟩ := addAll_pre (next x) o
    rw [hu, List.getElem?_append_left (by omega)] at hz
    rw [addAll_mem]
    by_cases hin : i = n
    · subst hin
      rw [e] at hz
      cases hz
      exact .inr hy
    · exact .inl (ho i z (by omega) hz y hy)
theorem Bfs.closed0 {a : A} {r : List A} (h : Bfs next [a] 0 r) : ∀ x ∈ r, ∀ y ∈ next x, y ∈ r := h.closed fun i x hi => absurd hi (Nat.not_lt_zero i)
theorem nodup_le : ∀ {r U : List A}, r.Nodup → (∀ x ∈ r, x ∈ U) → r.length ≤ U.length := by
  intro r
  induction r with
  | nil => intro U _ _; exact Nat.zero_le _
  | cons a r ih =>
    intro U hn hs
    have ha : a ∈ U := hs a List.mem_cons_self
    have h1 := ih (U := U.erase a) (List.nodup_cons.mp hn).2 fun x hx => by
      refine (List.mem_erase_of_ne ?_).mpr (hs x (List.mem_cons_of_mem _ hx))
      rintro rfl
      exact (List.nodup_cons.mp hn).1 hx
    have h2 := List.length_erase_of_mem ha
    have h3 : 0 < U.length := List.length_pos_of_mem ha
    rw [List.length_cons]
    omega
/-- a finite closed lot ends the search -/
theorem Bfs.ends (U : List A) (hU : ∀ x ∈ U, ∀ y ∈ next x, y ∈ U) : ∀ (k n : Nat) (o : List A), U.length - n ≤ k → o.Nodup → (∀ x ∈ o, x ∈ U) → ∃ r, Bfs next o n r := by
  intro k
  induction k with
  | zero =>
    intro n o hk hn ho
    have := nodup_le hn ho
    exact ⟨o, .done (by omega)⟩
  | succ k ih =>
    intro n o hk hn ho
    by_cases hl : o.length ≤ n
    · exact ⟨o, .done hl⟩
    · have hlt : n < o.length := by omega
      have hx : o[n]? = some o[n] := List.getElem?_eq_getElem hlt
      have h1 := nodup_le hn ho
      obtain ⟨r, hr⟩ := ih (n + 1) (addAll o (next o[n])) (by omega) (addAll_nodup _ _ hn) fun y hy => by
        rcases (addAll_mem _ _ _).mp hy with a | a
        · exact ho y a
        · exact hU _ (ho _ (List.getElem_mem hlt)) y a
      exact ⟨r, .step hx hr⟩
end
section
variable {A B : Type} [DecidableEq A] [DecidableEq B] {next : A → List A} {next' : B → List B} {f : A → B} {C : A → Prop}
theorem addAll_map (hf : ∀ x y, C x → C y → f x = f y → x = y) (xs : List A) : ∀ o : List A, (∀ x ∈ o, C x) → (∀ x ∈ xs, C x) → (addAll o xs).map f = addAll (o.map f) (xs.map f) := by
  induction xs with
  | nil => intro o _ _; rfl
  | cons x xs ih =>
    intro o ho hx
    have hm : f x ∈ o.map f ↔ x ∈ o := by
      constructor
      · intro h
        obtain ⟨y, hy, e⟩ := List.mem_map.mp h
        rw [← hf y x (ho y hy) (hx x List.mem_cons_self) e]
        exact hy
      · exact fun h => List.mem_map.mpr ⟨x, h, rfl⟩
    rw [addAll_cons, List.map_cons, addAll_cons]
    by_cases h : x ∈ o
    · rw [if_pos h, if_pos (hm.mpr h)]
      exact ih o ho fun y hy => hx y (List.mem_cons_of_mem _ hy)
    · rw [if_neg h, if_neg fun z => h (hm.mp z)]
      rw [ih (o ++ [x]) (fun y hy => ?_) fun y hy => hx y (List.mem_cons_of_mem _ hy)]
      · rw [List.map_append] <;> rfl
      · rcases List.mem_append.mp hy with a | a
        · exact ho y a
        · rw [List.mem_singleton.mp a]
          exact hx x List.mem_cons_self
/-- the search is carried along an injection -/
theorem Bfs.map (hf : ∀ x y, C x → C y → f x = f y → x = y) (hC : ∀ x, C x → ∀ y ∈ next x, C y) (hn : ∀ x, C x → next' (f x) = (next x).map f) {o r : List A} {n : Nat} (h : Bfs next o n r) : (∀ x ∈ o, C x) → Bfs next' (o.map f) n (r.map f) := by
  induction h with
  | done hl => exact fun _ => .done (by rw [List.length_map]; exact hl)
  | @step o r n x e _ ih =>
    intro ho
    have hx : C x := ho x (List.mem_of_getElem? e)
    refine .step (x := f x) (by rw [List.getElem?_map, e]; rfl) ?_
    rw [hn x hx, ← addAll_map hf (next x) o ho (hC x hx)]
    refine ih fun y hy => ?_
    rcases (addAll_mem _ _ _).mp hy with a | a
    · exact ho y a
    · exact hC x hx y a
theorem idxOf_map (hf : ∀ x y, C x → C y → f x = f y → x = y) : ∀ {r : List A} {x : A}, (∀ y ∈ r, C y) → C x → (r.map f).idxOf (f x) = r.idxOf x := by
  intro r
  induction r with
  | nil => intro x _ _; rfl
  | cons a r ih =>
    intro x hr hx
    rw [List.map_cons, List.idxOf_cons, List.idxOf_cons]
    have e : (f a == f x) = (a == x) := by
      by_cases h : a = x
      · subst h
        rw [beq_self_eq_true, beq_self_eq_true]
      · have h' : ¬ f a = f x := fun z => h (hf a x (hr a List.mem_cons_self) hx z)
        rw [beq_eq_false_iff_ne.mpr h, beq_eq_false_iff_ne.mpr h']
    rw [e, ih (fun y hy => hr y (List.mem_cons_of_mem _ hy)) hx]
end
/-! ### languages -/
def Lang : Type := List Nat → Bool
noncomputable instance : DecidableEq Lang := fun a b => Classical.propDecidable (a = b)
def der (l : Nat) (L : Lang) : Lang := fun w => L (l :: w)
def ders (u : List Nat) (L : Lang) : Lang := fun w => L (u ++ w)
theorem ders_nil (L : Lang) : ders [] L = L := rfl
theorem ders_cons (l : Nat) (u : List Nat) (L : Lang) : ders (l :: u) L = ders u (der l L) := rfl
theorem ders_snoc (l : Nat) (u : List Nat) (L : Lang) : ders (u ++ [l]) L = der l (ders u L) := by
  funext w
  show L (u ++ [l] ++ w) = L (u ++ l :: w)
  rw [List.append_assoc] <;> rfl
def nextL (m : Nat) (L : Lang) : List Lang := (List.range m).map fun l => der l L
/-- the words over m letters alone -/
def clip (m : Nat) (f : List Nat → Bool) : Lang := fun w => w.all (fun l => decide (l < m)) && f w
/-- the canonical machine of a language: its residuals, in the sequence in which a search in breadth meets them -/
def Canon (m : Nat) (L : Lang) (st : List (List Nat)) (en : List Nat) : Prop :=
  ∃ R : List Lang, Bfs (nextL m) [L] 0 R ∧ st = R.map (fun M => (nextL m M).map fun N => R.idxOf N) ∧ en = (List.range R.length).filter fun i => match R[i]? with
    | some M => M []
    | none => false
theorem Canon.det {m : Nat} {L : Lang} {st st' : List (List Nat)} {en en' : List Nat} (h : Canon m L st en) (h' : Canon m L st' en') : st = st' ∧ en = en' := by
  obtain ⟨R, b, e1, e2⟩ := h
  obtain ⟨R', b', e1', e2'⟩ := h'
  have e := b.det b'
  subst e
  exact ⟨e1.trans e1'.symm, e2.trans e2'.symm⟩
/-! ### machines -/
def go (st : List (List Nat)) (q l : Nat) : Nat := (st.getD q []).getD l 0
def run (st : List (List Nat)) (q : Nat) (w : List Nat) : Nat := w.foldl (go st) q
theorem run_nil (st : List (List Nat)) (q : Nat) : run st q [] = q := rfl
theorem run_cons (st : List (List Nat)) (q l : Nat) (w : List Nat) : run st q (l :: w) = run st (go st q l) w := rfl
theorem run_app (st : List (List Nat)) (q : Nat) (u w : List Nat) : run st q (u ++ w) = run st (run st q u) w := List.foldl_append
/-- what a state lets -/
def stL (m : Nat) (st : List (List Nat)) (en : List Nat) (q : Nat) : Lang := clip m fun w => decide (run st q w ∈ en)
abbrev lang (m : Nat) (st : List (List Nat)) (en : List Nat) : Lang := stL m st en 0
structure Valid (m : Nat) (st : List (List Nat)) (en : List Nat) : Prop where
  pos : 0 < st.length
  row : ∀ r ∈ st, r.length = m ∧ ∀ q ∈ r, q < st.length
  en : ∀ q ∈ en, q < st.length
theorem Valid.go {m : Nat} {st : List (List Nat)} {en : List Nat} (v : Valid m st en) {q l : Nat} (hq : q < st.length) (hl : l < m) : go st q l < st.length := by
  have e : st.getD q [] = st[q] := by rw [List.getD_eq_getElem?_getD, List.getElem?_eq_getElem hq] <;> rfl
  obtain ⟨h1, h2⟩ := v.row st[q] (List.getElem_mem hq)
  unfold K81M.go
  rw [e, List.getD_eq_getElem?_getD, List.getElem?_eq_getElem (by omega)]
  exact h2 _ (List.getElem_mem _)
theorem der_stL {m : Nat} {st : List (List Nat)} {en : List Nat} {q l : Nat} (hl : l < m) : der l (stL m st en q) = stL m st en (go st q l) := by
  funext w
  show ((l :: w).all (fun l => decide (l < m)) && decide (run st q (l :: w) ∈ en)) = _
  rw [List.all_cons, decide_eq_true hl, Bool.true_and, run_cons] <;> rfl
theorem row_map {m : Nat} {st : List (List Nat)} {en : List Nat} (v : Valid m st en) {q : Nat} {r : List Nat} (h : st[q]? = some r) : r = (List.range m).map (go st q) := by
  obtain ⟨hq, e⟩ := List.getElem?_eq_some_iff.mp h
  obtain ⟨h1, h2⟩ := v.row r (by rw [← e]; exact List.getElem_mem hq)
  refine List.ext_getElem (by rw [List.length_map, List.length_range]; exact h1) fun i a b => ?_
  rw [List.getElem_map, List.getElem_range]
  have e2 : st.getD q [] = r := by rw [List.getD_eq_getElem?_getD, h] <;> rfl
  unfold K81M.go
  rw [e2, List.getD_eq_getElem?_getD, List.getElem?_eq_getElem a] <;> rfl
end K81M
end
section
set_option Elab.async false
set_option maxRecDepth 100000
set_option linter.all false
/-! The canonical machine: what it lets, how many states; the least form by groups; machines by standings. -/
namespace K81M
theorem mem_nextL {m : Nat} {L M : Lang} : M ∈ nextL m L ↔ ∃ l, l < m ∧ M = der l L := by
  unfold nextL
  rw [List.mem_map]
  constructor
  · rintro ⟨l, h1, h2⟩
    exact ⟨l, List.mem_range.mp h1, h2.symm⟩
  · rintro ⟨l, h1, h2⟩
    exact ⟨l, List.mem_range.mpr h1, h2.symm⟩
theorem idxOf_get {A : Type} [DecidableEq A] {r : List A} {x : A} (h : x ∈ r) : r[r.idxOf x]? = some x := by
  have hl := List.idxOf_lt_length_of_mem h
  rw [List.getElem?_eq_getElem hl, List.getElem_idxOf hl]
theorem ders_in {m : Nat} {L : Lang} {R : List Lang} (b : Bfs (nextL m) [L] 0 R) : ∀ (u : List Nat) (M : Lang), M ∈ R → (∀ l ∈ u, l < m) → ders u M ∈ R := by
  intro u
  induction u with
  | nil => intro M hM _; exact hM
  | cons l u ih =>
    intro M hM hu
    rw [ders_cons]
    exact ih _ (b.closed0 M hM _ (mem_nextL.mpr ⟨l, hu l List.mem_cons_self, rfl⟩)) fun k hk => hu k (List.mem_cons_of_mem _ hk)
theorem canon_go {m : Nat} {R : List Lang} {M : Lang} {l : Nat} (hM : M ∈ R) (hl : l < m) : go (R.map fun M => (nextL m M).map fun N => R.idxOf N) (R.idxOf M) l = R.idxOf (der l M) := by
  unfold go
  rw [List.getD_eq_getElem?_getD, List.getD_eq_getElem?_getD, List.getElem?_map, idxOf_get hM]
  show (((nextL m M).map fun N => R.idxOf N)[l]?).getD 0 = _
  unfold nextL
  rw [List.getElem?_map, List.getElem?_map, List.getElem?_range hl] <;> rfl
theorem canon_run {m : Nat} {L : Lang} {R : List Lang} (b : Bfs (nextL m) [L] 0 R) : ∀ (u : List Nat) (M : Lang), M ∈ R → (∀ l ∈ u, l < m) → run (R.map fun M => (nextL m M).map fun N => R.idxOf N) (R.idxOf M) u = R.idxOf (ders u M) := by
  intro u
  induction u with
  | nil => intro M _ _; rfl
  | cons l u ih =>
    intro M hM hu
    have hl := hu l List.mem_cons_self
    rw [run_cons, canon_go hM hl, ders_cons]
    exact ih _ (b.closed0 M hM _ (mem_nextL.mpr ⟨l, hl, rfl⟩)) fun k hk => hu k (List.mem_cons_of_mem _ hk)
theorem canon_first {m : Nat} {L : Lang} {R : List Lang} (b : Bfs (nextL m) [L] 0 R) : L ∈ R ∧ R.idxOf L = 0 := by
  obtain ⟨t, rfl⟩ := b.pre
  refine ⟨List.mem_cons_self, ?_⟩
  show List.idxOf L (L :: t) = 0
  rw [List.idxOf_cons, beq_self_eq_true] <;> rfl
/-- the canonical machine lets just the language (its words over m letters) -/
theorem Canon.lets {m : Nat} {L : Lang} {st : List (List Nat)} {en : List Nat} (h : Canon m L st en) {w : List Nat} (hw : ∀ l ∈ w, l < m) : decide (run st 0 w ∈ en) = L w := by
  obtain ⟨R, b, rfl, rfl⟩ := h
  obtain ⟨h1, h2⟩ := canon_first b
  have e := canon_run b w L h1 hw
  rw [h2] at e
  rw [e]
  have hin := ders_in b w L h1 hw
  have hl := List.idxOf_lt_length_of_mem hin
  have key : (match R[R.idxOf (ders w L)]? with
    | some M => M []
    | none => false) = L w := by
    rw [idxOf_get hin]
    show L (w ++ []) = L w
    rw [List.append_nil]
  cases hv : L w with
  | true =>
    rw [hv] at key
    exact decide_eq_true (List.mem_filter.mpr ⟨List.mem_range.mpr hl, key⟩)
  | false =>
    rw [hv] at key
    refine decide_eq_false fun z => ?_
    have z2 := (List.mem_filter.mp z).2
    exact absurd (z2.symm.trans key) (by decide)
theorem Canon.valid {m : Nat} {L : Lang} {st : List (List Nat)} {en : List Nat} (h : Canon m L st en) : Valid m st en := by
  obtain ⟨R, b, rfl, rfl⟩ := h
  obtain ⟨h1, h2⟩ := canon_first b
  refine ⟨by rw [List.length_map]; exact List.length_pos_of_mem h1, fun r hr => ?_, fun q hq => ?_⟩
  · obtain ⟨M, hM, rfl⟩ := List.mem_map.mp hr
    refine ⟨by unfold nextL; rw [List.length_map, List.length_map, List.length_range], fun q hq => ?_⟩
    obtain ⟨N, hN, rfl⟩ := List.mem_map.mp hq
    rw [List.length_map]
    exact List.idxOf_lt_length_of_mem (b.closed0 M hM N hN)
  · rw [List.length_map]
    exact List.mem_range.mp (List.mem_filter.mp hq).1
/-- a lot of residuals that is closed bounds its states -/
theorem Canon.few {m : Nat} {L : Lang} {st : List (List Nat)} {en : List Nat} (h : Canon m L st en) (U : List Lang) (h0 : L ∈ U) (hU : ∀ M ∈ U, ∀ l, l < m → der l M ∈ U) : st.length ≤ U.length := by
  obtain ⟨R, b, rfl, rfl⟩ := h
  rw [List.length_map]
  refine nodup_le (b.nodup (List.nodup_cons.mpr ⟨by simp, List.nodup_nil⟩)) (b.all (C := fun M => M ∈ U) (fun M hM N hN => ?_) fun M hM => ?_)
  · obtain ⟨l, hl, rfl⟩ := mem_nextL.mp hN
    exact hU M hM l hl
  · rw [List.mem_singleton.mp hM]
    exact h0
theorem clip_der {m l : Nat} (f : List Nat → Bool) (hl : l < m) : der l (clip m f) = clip m fun w => f (l :: w) := by
  funext w
  show ((l :: w).all (fun l => decide (l < m)) && f (l :: w)) = _
  rw [List.all_cons, decide_eq_true hl, Bool.true_and] <;> rfl
/-! ### machines by standings: a search in breadth over any keys -/
section
variable {S : Type} [DecidableEq S]
/-- what a standing lets -/
def stdL (m : Nat) (step : S → Nat → S) (isl : S → Bool) (x : S) : Lang := clip m fun w => isl (w.foldl step x)
theorem der_stdL {m l : Nat} {step : S → Nat → S} {isl : S → Bool} {x : S} (hl : l < m) : der l (stdL m step isl x) = stdL m step isl (step x l) := by
  unfold stdL
  rw [clip_der _ hl] <;> rfl
def nextS (m : Nat) (step : S → Nat → S) (x : S) : List S := (List.range m).map (step x)
theorem mem_nextS {m : Nat} {step : S → Nat → S} {x y : S} : y ∈ nextS m step x ↔ ∃ l, l < m ∧ y = step x l := by
  unfold nextS
  rw [List.mem_map]
  constructor
  · rintro ⟨l, h1, h2⟩
    exact ⟨l, List.mem_range.mp h1, h2.symm⟩
  · rintro ⟨l, h1, h2⟩
    exact ⟨l, List.mem_range.mpr h1, h2.symm⟩
/-- the machine that the search has made -/
def madeSt (m : Nat) (step : S → Nat → S) (r : List S) : List (List Nat) := r.map fun x => (nextS m step x).map fun y => r.idxOf y
def madeEn (isl : S → Bool) (r : List S) : List Nat := (List.range r.length).filter fun i => match r[i]? with
  | some x => isl x
  | none => false
theorem made_valid {m : Nat} {step : S → Nat → S} {isl : S → Bool} {x : S} {r : List S} (b : Bfs (nextS m step) [x] 0 r) : Valid m (madeSt m step r) (madeEn isl r) := by
  have h0 : x ∈ r := b.sub List.mem_cons_self
  refine ⟨by unfold madeSt; rw [List.length_map]; exact List.length_pos_of_mem h0, fun q hr => ?_, fun q hq => ?_⟩
  · obtain ⟨y, hy, rfl⟩ := List.mem_map.mp hr
    refine ⟨by unfold nextS; rw [List.length_map, List.length_map, List.length_range], fun p hp => ?_⟩
    obtain ⟨z, hz, rfl⟩ := List.mem_map.mp hp
    unfold madeSt
    rw [List.length_map]
    exact List.idxOf_lt_length_of_mem (b.closed0 y hy z hz)
  · unfold madeSt
    rw [List.length_map]
    exact List.mem_range.mp (List.mem_filter.mp hq).1
theorem made_go {m : Nat} {step : S → Nat → S} {r : List S} {x : S} {l : Nat} (hx : x ∈ r) (hl : l < m) : go (madeSt m step r) (r.idxOf x) l = r.idxOf (step x l) := by
  unfold go madeSt
  rw [List.getD_eq_getElem?_getD, List.getD_eq_getElem?_getD, List.getElem?_map, idxOf_get hx]
  show (((nextS m step x).map fun y => r.idxOf y)[l]?).getD 0 = _
  unfold nextS
  rw [List.getElem?_map, List.getElem?_map, List.getElem?_range hl] <;> rfl
theorem made_run {m : Nat} {step : S → Nat → S} {x : S} {r : List S} (b : Bfs (nextS m step) [x] 0 r) : ∀ (w : List Nat) (y : S), y ∈ r → (∀ l ∈ w, l < m) → w.foldl step y ∈ r ∧ run (madeSt m step r) (r.idxOf y) w = r.idxOf (w.foldl step y) := by
  intro w
  induction w with
  | nil => intro y hy _; exact ⟨hy, rfl⟩
  | cons l w ih =>
    intro y hy hw
    have hl := hw l List.mem_cons_self
    rw [run_cons, made_go hy hl, List.foldl_cons]
    exact ih _ (b.closed0 y hy _ (mem_nextS.mpr ⟨l, hl, rfl⟩)) fun k hk => hw k (List.mem_cons_of_mem _ hk)
theorem made_lang {m : Nat} {step : S → Nat → S} {isl : S → Bool} {x : S} {r : List S} (b : Bfs (nextS m step) [x] 0 r) : lang m (madeSt m step r) (madeEn isl r) = stdL m step isl x := by
  funext w
  have h0 : x ∈ r := b.sub List.mem_cons_self
  have i0 : r.idxOf x = 0 := by
    obtain ⟨t, rfl⟩ := b.pre
    show List.idxOf x (x :: t) = 0
    rw [List.idxOf_cons, beq_self_eq_true] <;> rfl
  show (w.all (fun l => decide (l < m)) && decide (run (madeSt m step r) 0 w ∈ madeEn isl r)) = (w.all (fun l => decide (l < m)) && isl (w.foldl step x))
  cases hw : w.all (fun l => decide (l < m)) with
  | false => rfl
  | true =>
    have hw' : ∀ l ∈ w, l < m := fun l hl => of_decide_eq_true (List.all_eq_true.mp hw l hl)
    obtain ⟨h1, h2⟩ := made_run b w x h0 hw'
    rw [i0] at h2
    rw [Bool.true_and, Bool.true_and, h2]
    have hl := List.idxOf_lt_length_of_mem h1
    have key : (match r[r.idxOf (w.foldl step x)]? with
      | some x => isl x
      | none => false) = isl (w.foldl step x) := by rw [idxOf_get h1]
    cases hv : isl (w.foldl step x) with
    | true =>
      rw [hv] at key
      exact decide_eq_true (List.mem_filter.mpr ⟨List.mem_range.mpr hl, key⟩)
    | false =>
      rw [hv] at key
      refine decide_eq_false fun z => ?_
      have z2 := (List.mem_filter.mp z).2
      exact absurd (z2.symm.trans key) (by decide)
end
/-! ### the least form by groups -/
section
variable {m : Nat} {st : List (List Nat)} {en : List Nat}
/-- groups that tell states apart just as their languages do -/
structure Grouped (m : Nat) (st : List (List Nat)) (en states : List Nat) (g : Nat → Nat) : Prop where
  eq : ∀ p q, p ∈ states → q ∈ states → (g p = g q ↔ stL m st en p = stL m st en q)
def nextR (m : Nat) (st : List (List Nat)) (q : Nat) : List Nat := (List.range m).map (go st q)
theorem mem_nextR {q p : Nat} : p ∈ nextR m st q ↔ ∃ l, l < m ∧ p = go st q l := by
  unfold nextR
  rw [List.mem_map]
  constructor
  · rintro ⟨l, h1, h2⟩
    exact ⟨l, List.mem_range.mp h1, h2.symm⟩
  · rintro ⟨l, h1, h2⟩
    exact ⟨l, List.mem_range.mpr h1, h2.symm⟩
/-- from the search over the groups to the canonical machine: hd gives each group a state of it -/
theorem least_canon {states : List Nat} {g hd : Nat → Nat} {order : List Nat} (b0 : Bfs (nextR m st) [0] 0 states) (G : Grouped m st en states g)
    (hh : ∀ q ∈ states, hd (g q) ∈ states ∧ g (hd (g q)) = g q) (b : Bfs (fun c => (nextR m st (hd c)).map g) [g 0] 0 order) :
    Canon m (lang m st en) (order.map fun c => (nextR m st (hd c)).map fun q => order.idxOf (g q))
      ((List.range order.length).filter fun i => match order[i]? with
        | some c => decide (hd c ∈ en)
        | none => false) := by
  have h0 : (0 : Nat) ∈ states := b0.sub List.mem_cons_self
  have hst : ∀ q ∈ states, ∀ p ∈ nextR m st q, p ∈ states := b0.closed0
  -- the groups of states
  let C : Nat → Prop := fun c => ∃ q ∈ states, c = g q
  have hC : ∀ x, C x → ∀ y ∈ (nextR m st (hd x)).map g, C y := by
    rintro _ ⟨q, hq, rfl⟩ y hy
    obtain ⟨p, hp, rfl⟩ := List.mem_map.mp hy
    exact ⟨p, hst _ (hh q hq).1 p hp, rfl⟩
  let f : Nat → Lang := fun c => stL m st en (hd c)
  have fg : ∀ q ∈ states, f (g q) = stL m st en q := fun q hq => (G.eq _ _ (hh q hq).1 hq).mp (hh q hq).2
  have hf : ∀ x y, C x → C y → f x = f y → x = y := by
    rintro _ _ ⟨q, hq, rfl⟩ ⟨p, hp, rfl⟩ e
    rw [fg q hq, fg p hp] at e
    exact (G.eq q p hq hp).mpr e
  have hn : ∀ x, C x → nextL m (f x) = ((nextR m st (hd x)).map g).map f := by
    rintro _ ⟨q, hq, rfl⟩
    unfold nextL nextR
    rw [List.map_map, List.map_map]
    refine List.map_congr_left fun l hl => ?_
    have hl := List.mem_range.mp hl
    show der l (stL m st en (hd (g q))) = f (g (go st (hd (g q)) l))
    rw [der_stL hl, fg _ (hst _ (hh q hq).1 _ (mem_nextR.mpr ⟨l, hl, rfl⟩))]
  have c0 : ∀ x ∈ [g 0], C x := fun x hx => ⟨0, h0, List.mem_singleton.mp hx⟩
  have B := b.map hf hC hn c0
  have hO : ∀ x ∈ order, C x := b.all hC c0
  refine ⟨order.map f, by
    have e : [g 0].map f = [lang m st en] := by
      show [f (g 0)] = _
      rw [fg 0 h0]
    rw [e] at B
    exact B, ?_, ?_⟩
  · rw [List.map_map]
    refine List.map_congr_left fun c hc => ?_
    show ((nextR m st (hd c)).map fun q => order.idxOf (g q)) = (nextL m (f c)).map fun N => (order.map f).idxOf N
    rw [hn c (hO c hc), List.map_map, List.map_map]
    refine List.map_congr_left fun q hq => ?_
    show order.idxOf (g q) = (order.map f).idxOf (f (g q))
    rw [idxOf_map hf hO (hC c (hO c hc) _ (List.mem_map.mpr ⟨q, hq, rfl⟩))]
  · rw [List.length_map]
    refine List.filter_congr fun i hi => ?_
    rw [List.getElem?_map]
    cases e : order[i]? with
    | none => rfl
    | some c =>
      show decide (hd c ∈ en) = (stL m st en (hd c)) []
      show _ = (true && decide (run st (hd c) [] ∈ en))
      rw [Bool.true_and] <;> rfl
end
end K81M
end
section
set_option Elab.async false
set_option maxRecDepth 100000
set_option linter.all false
/-! Groups of states refined until their number stays. -/
namespace K81M
section
variable {A B S : Type} [DecidableEq A] [DecidableEq B] [DecidableEq S]
def ixOf {A : Type} [DecidableEq A] (r : List A) (x : A) : Nat := r.idxOf x
theorem ixOf_get {A : Type} [DecidableEq A] {r : List A} {x : A} (h : x ∈ r) : r[ixOf r x]? = some x := idxOf_get h
theorem ixOf_lt {A : Type} [DecidableEq A] {r : List A} {x : A} (h : x ∈ r) : ixOf r x < r.length := List.idxOf_lt_length_of_mem h
theorem ixOf_app {A : Type} [DecidableEq A] {r t : List A} {x : A} (h : x ∈ r) : ixOf (r ++ t) x = ixOf r x := by unfold ixOf; rw [List.idxOf_append, if_pos h]
theorem ixOf_new {A : Type} [DecidableEq A] {r t : List A} {x : A} (h : ¬ x ∈ r) : ixOf (r ++ x :: t) x = r.length := by
  unfold ixOf
  rw [List.idxOf_append, if_neg h, List.idxOf_cons, beq_self_eq_true]
  simp
theorem ixOf_self {A : Type} [DecidableEq A] {r : List A} {x : A} : ixOf (x :: r) x = 0 := by
  unfold ixOf
  rw [List.idxOf_cons, beq_self_eq_true] <;> rfl
theorem ixOf_ne {A : Type} [DecidableEq A] {r : List A} {a x : A} (h : a ≠ x) : ixOf (a :: r) x = ixOf r x + 1 := by
  unfold ixOf
  rw [List.idxOf_cons, beq_eq_false_iff_ne.mpr h] <;> rfl
/-- how many answers -/
def cnt (g : S → A) (states : List S) : Nat := (addAll [] (states.map g)).length
theorem mem_addAll0 {xs : List A} {y : A} : y ∈ addAll [] xs ↔ y ∈ xs := by
  rw [addAll_mem]
  constructor
  · rintro (h | h)
    · cases h
    · exact h
  · exact .inr
theorem nodup0 (xs : List A) : (addAll [] xs).Nodup := addAll_nodup xs [] List.nodup_nil
theorem cnt_le {g : S → A} {k : S → B} {states : List S} (h : B → A) (hh : ∀ q ∈ states, g q = h (k q)) : cnt g states ≤ cnt k states := by
  have := nodup_le (nodup0 (states.map g)) (U := (addAll [] (states.map k)).map h) fun x hx => by
    obtain ⟨q, hq, rfl⟩ := List.mem_map.mp (mem_addAll0.mp hx)
    exact List.mem_map.mpr ⟨k q, mem_addAll0.mpr (List.mem_map.mpr ⟨q, hq, rfl⟩), (hh q hq).symm⟩
  rwa [List.length_map] at this
theorem cnt_eq {g : S → A} {k : S → B} {states : List S} (h : B → A) (hh : ∀ q ∈ states, g q = h (k q)) (e : cnt g states = cnt k states) {p q : S} (hp : p ∈ states) (hq : q ∈ states) (hg : g p = g q) : k p = k q := by
  apply Classical.byContradiction
  intro hne
  have mp : k p ∈ addAll [] (states.map k) := mem_addAll0.mpr (List.mem_map.mpr ⟨p, hp, rfl⟩)
  have mq : k q ∈ addAll [] (states.map k) := mem_addAll0.mpr (List.mem_map.mpr ⟨q, hq, rfl⟩)
  have := nodup_le (nodup0 (states.map g)) (U := ((addAll [] (states.map k)).erase (k p)).map h) fun x hx => by
    obtain ⟨r, hr, rfl⟩ := List.mem_map.mp (mem_addAll0.mp hx)
    by_cases er : k r = k p
    · refine List.mem_map.mpr ⟨k q, (List.mem_erase_of_ne fun z => hne z.symm).mpr mq, ?_⟩
      rw [← hh q hq, ← hg, hh p hp, hh r hr, er]
    · exact List.mem_map.mpr ⟨k r, (List.mem_erase_of_ne er).mpr (mem_addAll0.mpr (List.mem_map.mpr ⟨r, hr, rfl⟩)), (hh r hr).symm⟩
  rw [List.length_map, List.length_erase_of_mem mp] at this
  have h0 := List.length_pos_of_mem mp
  unfold cnt at e
  omega
end
section
variable {m : Nat} {st : List (List Nat)} {en states : List Nat} {g : Nat → Nat} {many now : Nat}
/-- a state's key: its group, the groups that it leads to -/
def keyR (m : Nat) (st : List (List Nat)) (g : Nat → Nat) (q : Nat) : List Nat := g q :: (nextR m st q).map g
def keysR (m : Nat) (st : List (List Nat)) (states : List Nat) (g : Nat → Nat) : List (List Nat) := addAll [] (states.map (keyR m st g))
def newG (m : Nat) (st : List (List Nat)) (states : List Nat) (g : Nat → Nat) (q : Nat) : Nat := ixOf (keysR m st states g) (keyR m st g q)
structure Pt (m : Nat) (st : List (List Nat)) (en states : List Nat) (g : Nat → Nat) (many now : Nat) : Prop where
  num : now = cnt g states
  le : many ≤ now
  stable : many = now → ∀ p q, p ∈ states → q ∈ states → g p = g q → ∀ l, l < m → g (go st p l) = g (go st q l)
  ends : ∀ p q, p ∈ states → q ∈ states → g p = g q → (p ∈ en ↔ q ∈ en)
  lang : ∀ p q, p ∈ states → q ∈ states → stL m st en p = stL m st en q → g p = g q
theorem cnt_pos {A : Type} [DecidableEq A] {g : Nat → A} {p : Nat} (h : p ∈ states) : 0 < cnt g states := List.length_pos_of_mem (mem_addAll0.mpr (List.mem_map.mpr ⟨p, h, rfl⟩))
def g0 (en : List Nat) (q : Nat) : Nat := if q ∈ en then 1 else 0
theorem pt_start {p0 : Nat} (h0 : p0 ∈ states) : Pt m st en states (g0 en) 0 (cnt (g0 en) states) where
  num := rfl
  le := Nat.zero_le _
  stable := fun e => by have := cnt_pos (g := g0 en) h0; omega
  ends := fun p q _ _ e => by
    unfold g0 at e
    by_cases a : p ∈ en
    · rw [if_pos a] at e
      by_cases b : q ∈ en
      · exact ⟨fun _ => b, fun _ => a⟩
      · rw [if_neg b] at e; omega
    · rw [if_neg a] at e
      by_cases b : q ∈ en
      · rw [if_pos b] at e; omega
      · exact ⟨fun z => absurd z a, fun z => absurd z b⟩
  lang := fun p q _ _ e => by
    have h := congrFun e []
    have h' : decide (p ∈ en) = decide (q ∈ en) := by
      have h2 : (true && decide (run st p [] ∈ en)) = (true && decide (run st q [] ∈ en)) := h
      rwa [Bool.true_and, Bool.true_and] at h2
    unfold g0
    by_cases a : p ∈ en
    · have b : q ∈ en := of_decide_eq_true (by rw [← h', decide_eq_true a])
      rw [if_pos a, if_pos b]
    · have b : ¬ q ∈ en := of_decide_eq_false (by rw [← h', decide_eq_false a])
      rw [if_neg a, if_neg b]
theorem keyR_mem {q : Nat} (h : q ∈ states) : keyR m st g q ∈ keysR m st states g := mem_addAll0.mpr (List.mem_map.mpr ⟨q, h, rfl⟩)
theorem newG_eq {p q : Nat} (hp : p ∈ states) (hq : q ∈ states) : newG m st states g p = newG m st states g q ↔ keyR m st g p = keyR m st g q := by
  constructor
  · intro e
    have h1 := ixOf_get (keyR_mem (m := m) (st := st) (g := g) hp)
    have h2 := ixOf_get (keyR_mem (m := m) (st := st) (g := g) hq)
    unfold newG at e
    rw [e, h2] at h1
    exact (Option.some.inj h1).symm
  · intro e
    unfold newG
    rw [e]
theorem keyR_eq {p q : Nat} : keyR m st g p = keyR m st g q ↔ g p = g q ∧ ∀ l, l < m → g (go st p l) = g (go st q l) := by
  unfold keyR nextR
  rw [List.map_map, List.map_map, List.cons.injEq]
  constructor
  · rintro ⟨h1, h2⟩
    exact ⟨h1, fun l hl => List.map_inj_left.mp h2 l (List.mem_range.mpr hl)⟩
  · rintro ⟨h1, h2⟩
    exact ⟨h1, List.map_inj_left.mpr fun l hl => h2 l (List.mem_range.mp hl)⟩
theorem cnt_newG : cnt (newG m st states g) states = (keysR m st states g).length := by
  refine Nat.le_antisymm (cnt_le (k := keyR m st g) (fun k => ixOf (keysR m st states g) k) fun q _ => rfl) ?_
  refine cnt_le (g := keyR m st g) (k := newG m st states g) (fun i => (keysR m st states g).getD i []) fun q hq => ?_
  show _ = List.getD _ _ _
  rw [List.getD_eq_getElem?_getD]
  unfold newG
  rw [ixOf_get (keyR_mem hq)]
  rfl
theorem pt_step (hst : ∀ q ∈ states, ∀ p ∈ nextR m st q, p ∈ states) (P : Pt m st en states g many now) : Pt m st en states (newG m st states g) now (keysR m st states g).length where
  num := cnt_newG.symm
  le := by
    rw [P.num]
    exact cnt_le (g := g) (k := keyR m st g) (fun k => k.headD 0) fun q _ => rfl
  stable := fun e p q hp hq h l hl => by
    have same : ∀ p q, p ∈ states → q ∈ states → g p = g q → keyR m st g p = keyR m st g q := fun p q hp hq hg => cnt_eq (g := g) (k := keyR m st g) (fun k => k.headD 0) (fun q _ => rfl) (by rw [← P.num]; exact e) hp hq hg
    have hk := (newG_eq hp hq).mp h
    have h2 := (keyR_eq.mp hk).2 l hl
    refine (newG_eq (hst p hp _ (mem_nextR.mpr ⟨l, hl, rfl⟩)) (hst q hq _ (mem_nextR.mpr ⟨l, hl, rfl⟩))).mpr (same _ _ (hst p hp _ (mem_nextR.mpr ⟨l, hl, rfl⟩)) (hst q hq _ (mem_nextR.mpr ⟨l, hl, rfl⟩)) h2)
  ends := fun p q hp hq h => P.ends p q hp hq (keyR_eq.mp ((newG_eq hp hq).mp h)).1
  lang := fun p q hp hq h => (newG_eq hp hq).mpr (keyR_eq.mpr ⟨P.lang p q hp hq h, fun l hl => by
    refine P.lang _ _ (hst p hp _ (mem_nextR.mpr ⟨l, hl, rfl⟩)) (hst q hq _ (mem_nextR.mpr ⟨l, hl, rfl⟩)) ?_
    rw [← der_stL hl, ← der_stL hl, h]⟩)
theorem pt_done (hst : ∀ q ∈ states, ∀ p ∈ nextR m st q, p ∈ states) (P : Pt m st en states g many now) (e : many = now) : Grouped m st en states g where
  eq := fun p q hp hq => by
    refine ⟨fun h => ?_, P.lang p q hp hq⟩
    have key : ∀ (w : List Nat) (p q : Nat), p ∈ states → q ∈ states → g p = g q → (∀ l ∈ w, l < m) → (run st p w ∈ en ↔ run st q w ∈ en) := by
      intro w
      induction w with
      | nil => intro p q hp hq h _; exact P.ends p q hp hq h
      | cons l w ih =>
        intro p q hp hq h hw
        have hl := hw l List.mem_cons_self
        rw [run_cons, run_cons]
        exact ih _ _ (hst p hp _ (mem_nextR.mpr ⟨l, hl, rfl⟩)) (hst q hq _ (mem_nextR.mpr ⟨l, hl, rfl⟩)) (P.stable e p q hp hq h l hl) fun k hk => hw k (List.mem_cons_of_mem _ hk)
    funext w
    show (w.all (fun l => decide (l < m)) && decide (run st p w ∈ en)) = (w.all (fun l => decide (l < m)) && decide (run st q w ∈ en))
    cases hw : w.all (fun l => decide (l < m)) with
    | false => rfl
    | true =>
      have hw' : ∀ l ∈ w, l < m := fun l hl => of_decide_eq_true (List.all_eq_true.mp hw l hl)
      rw [Bool.true_and, Bool.true_and]
      exact decide_eq_decide.mpr (key w p q hp hq h hw')
end
end K81M
end
section
set_option Elab.async false
set_option maxRecDepth 100000
set_option maxHeartbeats 4000000
set_option linter.all false
/-! basics: is_integer, is_count, is_list, want_at_most, want_letters -/
namespace K81
open PySem PySem.Spec PyProof.Rows L2
section
variable {P : Program} {w : World} {K : PySem.W.Frag} {mg : Str → Option Value} {base : Heap}
/-! ### is_integer: of ints alone -/
def spIsInteger : Sp := fun vs H Q _ => ∃ i, vs = [.int i] ∧ Q (.bl true) H
theorem scIsInteger : FnScope ["value"] ["value"] (defScope sIsInteger) := ⟨rfl, rfl, rfl, by decide +kernel, rfl, by decide +kernel, by decide +kernel⟩
theorem c_is_integer (T : Txt K mg) : Cal P w K mg base 1 "is_integer" ["value"] spIsInteger := by
  refine cal sIsInteger T 0 0 rfl rfl scIsInteger (fun _ _ _ _ _ _ us hl => match us, hl with | [_], _ => rfl) (fun vs H Q E h => ?_) (fun cdv A outer s H vs Q E hr h => ?_)
  · obtain ⟨i, rfl, _⟩ := h
    rfl
  · obtain ⟨i, rfl, k⟩ := h
    refine ⟨_, pss_one (ps_ret (pe_and (pe_callB call_isi (by rfl) (T.f 7 rfl) boot_isinstance (pa_cons (pv 0) (pa_cons (pe_ty (T.f 4 rfl) boot_int) pa_nil)))
      (pe_one (pe_not (pe_callB call_isi (by rfl) (T.f 7 rfl) boot_isinstance (pa_cons (pv 0) (pa_cons (pe_ty (T.f 5 rfl) boot_bool) pa_nil))))))), ?_⟩
    refine ⟨_, rfl, _, _, _, _, true, rfl, .ty "int", .base (.int i), kit_ty (by decide +kernel), true, rfl, ?_⟩
    refine iteT ?_
    exact ⟨_, rfl, _, _, _, _, false, rfl, .ty "bool", .base (.int i), kit_ty (by decide +kernel), false, rfl, k⟩
/-! ### is_count: of ints alone -/
def spIsCount : Sp := fun vs H Q _ => ∃ i, vs = [.int i] ∧ Q (.bl (decide (0 ≤ i))) H
theorem scIsCount : FnScope ["value"] ["value"] (defScope sIsCount) := ⟨rfl, rfl, rfl, by decide +kernel, rfl, by decide +kernel, by decide +kernel⟩
theorem c_is_count (T : Txt K mg) : Cal P w K mg base 2 "is_count" ["value"] spIsCount := by
  refine cal sIsCount T 1 1 rfl rfl scIsCount (fun _ _ _ _ _ _ us hl => match us, hl with | [_], _ => rfl) (fun vs H Q E h => ?_) (fun cdv A outer s H vs Q E hr h => ?_)
  · obtain ⟨i, rfl, _⟩ := h
    rfl
  · obtain ⟨i, rfl, k⟩ := h
    refine ⟨_, pss_one (ps_ret (pe_and (pe_c (c_is_integer T) hr (by decide) (pa_cons (pv 0) pa_nil)) (pe_one (pe_cmpR op_ge (pv 0) pe_int (nomark _))))), ?_⟩
    refine ⟨_, rfl, i, rfl, true, rfl, iteT ?_⟩
    exact ⟨_, rfl, _, _, rfl, rfl, k⟩
/-! ### want_letters -/
def spWantLetters : Sp := fun vs H Q _ => ∃ i, vs = [.int i] ∧ 1 ≤ i ∧ i ≤ 3 ∧ Q .non H
theorem scWantLetters : FnScope ["value"] ["value"] (defScope sWantLetters) := ⟨rfl, rfl, rfl, by decide +kernel, rfl, by decide +kernel, by decide +kernel⟩
theorem c_want_letters (T : Txt K mg) : Cal P w K mg base 3 "want_letters" ["value"] spWantLetters := by
  refine cal sWantLetters T 4 4 rfl rfl scWantLetters (fun _ _ _ _ _ _ us hl => match us, hl with | [_], _ => rfl) (fun vs H Q E h => ?_) (fun cdv A outer s H vs Q E hr h => ?_)
  · obtain ⟨i, rfl, _⟩ := h
    rfl
  · obtain ⟨i, rfl, h1, h3, k⟩ := h
    refine ⟨_, pss_one (ps_if (PW.pt (pw_or (pt_not (pt_val (pe_c (c_is_count T) hr (by decide) (pa_cons (pv 0) pa_nil)))) (pw_or1 (pt_not (pt_chain op_le op_le pe_int (pv 0) (pe_gint T.i3))))))
      (pss_one ps_never) pss_nil), ?_⟩
    refine ⟨_, rfl, i, rfl, _, rfl, ?_⟩
    rw [decide_eq_true (show 0 ≤ i by omega)]
    refine iteF ⟨_, rfl, _, _, rfl, rfl, true, vbT h1, ?_⟩
    refine iteT ⟨_, _, rfl, rfl, true, vbT h3, ?_⟩
    exact iteF k
/-! ### want_at_most -/
def spWantAtMost : Sp := fun vs H Q _ => ∃ x l n, vs = [x, .int l, .int n] ∧ n ≤ l ∧ Q .non H
theorem scWantAtMost : FnScope ["what", "limit", "number"] ["what", "limit", "number"] (defScope sWantAtMost) := ⟨rfl, rfl, rfl, by decide +kernel, rfl, by decide +kernel, by decide +kernel⟩
theorem c_want_at_most (T : Txt K mg) : Cal P w K mg base 1 "want_at_most" ["what", "limit", "number"] spWantAtMost := by
  refine cal sWantAtMost T 3 3 rfl rfl scWantAtMost (fun _ _ _ _ _ _ us hl => match us, hl with | [_, _, _], _ => rfl) (fun vs H Q E h => ?_) (fun cdv A outer s H vs Q E hr h => ?_)
  · obtain ⟨x, l, n, rfl, _⟩ := h
    rfl
  · obtain ⟨x, l, n, rfl, h1, k⟩ := h
    refine ⟨_, pss_one (ps_if (pt_cmpR op_gt (pv 2) (pv 1) (nomark _)) (pss_one ps_never) pss_nil), ?_⟩
    refine ⟨_, rfl, _, rfl, _, _, rfl, rfl, _, rfl, ?_⟩
    rw [decide_eq_false (show ¬ l < n by omega)]
    exact iteF k
/-! ### is_list: of lists and tuples alone -/
def spIsList (K : PySem.W.Frag) : Sp := fun vs H Q _ => ∃ a xs, vs = [.ref a] ∧ Sq K H a xs ∧ ∀ H', Same H H' → Q (.bl true) H'
theorem scIsList : FnScope ["value"] ["value"] (defScope sIsList) := ⟨rfl, rfl, rfl, by decide +kernel, rfl, by decide +kernel, by decide +kernel⟩
theorem tyx_sq {K : PySem.W.Frag} {H : Hp} {a : Addr} {xs : List V} (h : Sq K H a xs) : TyX K H (.ref a) (.type "list") ∨ TyX K H (.ref a) (.type "tuple") := by
  rcases h with ((h | ⟨o, h⟩) | ⟨o, its, n, h, hc, _⟩) | ((h | ⟨o, h⟩) | ⟨o, its, n, h, hc, _⟩)
  · exact .inl (.base (.lst h))
  · exact .inl (.base (.frz h))
  · exact .inl (.kList h hc)
  · exact .inr (.base (.tup h))
  · exact .inr (.fTuple h)
  · exact .inr (.kTuple h hc)
theorem TyX.mono {K : PySem.W.Frag} {H H' : Hp} {a : Addr} {xs : List V} (h : Sq K H a xs) (e : Same H H') : TyX K H' (.ref a) (.type "list") ∨ TyX K H' (.ref a) (.type "tuple") := tyx_sq (h.mono e)
theorem c_is_list (T : Txt K mg) : Cal P w K mg base 1 "is_list" ["value"] (spIsList K) := by
  refine cal sIsList T 2 2 rfl rfl scIsList (fun _ _ _ _ _ _ us hl => match us, hl with | [_], _ => rfl) (fun vs H Q E h => ?_) (fun cdv A outer s H vs Q E hr h => ?_)
  · obtain ⟨a, xs, rfl, _⟩ := h
    rfl
  · obtain ⟨a, xs, rfl, hs, k⟩ := h
    refine ⟨_, pss_one (ps_ret (pe_callB call_isiT (by rfl) (T.f 7 rfl) boot_isinstance (pa_cons (pv 0) (pa_cons (pe_tup (pa_cons (pe_ty (T.f 3 rfl) boot_list) (pa_cons (pe_ty (T.f 8 rfl) boot_tuple) pa_nil))) pa_nil)))), ?_⟩
    refine ⟨_, rfl, by show 2 ≤ sizeLine; decide, fun p hp => ?_⟩
    have e := same_new (o := .tup [.ty "list", .ty "tuple"]) hp
    rcases TyX.mono hs e with t | t
    · exact ⟨_, p, _, _, _, true, rfl, upd_same, .cons (.ty "list") (.cons (.ty "tuple") .nil), t, kit_ll, k _ e⟩
    · exact ⟨_, p, _, _, _, true, rfl, upd_same, .cons (.ty "list") (.cons (.ty "tuple") .nil), t, kit_tl, k _ e⟩
end
end K81
end
section
set_option Elab.async false
set_option maxRecDepth 100000
set_option maxHeartbeats 4000000
set_option linter.all false
/-! Helpers: a list being filled, comprehensions whose elements leave all as it was, walks over lists or tuples. -/
namespace K81
open PySem PySem.Spec PyProof.Rows L2
/-! ### the heap without one object -/
def hole (H : Hp) (D : Addr) : Hp := fun b => if b = D then none else H b
theorem hole_ne {H : Hp} {D b : Addr} (h : b ≠ D) : hole H D b = H b := by unfold hole; rw [if_neg h]
theorem hole_at {H : Hp} {D : Addr} : hole H D D = none := by unfold hole; rw [if_pos rfl]
theorem hole_some {H : Hp} {D b : Addr} {o : HO} (h : hole H D b = some o) : b ≠ D ∧ H b = some o := by
  unfold hole at h
  split at h
  · cases h
  · rename_i q; exact ⟨q, h⟩
theorem hole_upd {H : Hp} {D : Addr} {o : HO} : hole (upd H D o) D = hole H D := by
  funext b
  unfold hole
  split
  · rfl
  · rename_i q; rw [upd_ne q]
theorem hole_sub {H : Hp} {D : Addr} : Same (hole H D) H := fun b o e => (hole_some e).2
theorem Same.hole {H H' : Hp} {D : Addr} (e : Same H H') : Same (hole H D) (hole H' D) := fun b o h => by
  obtain ⟨q, h⟩ := hole_some h
  rw [hole_ne q]
  exact e b o h
/-- what was there ahead of a new object stands without it -/
theorem same_hole {H H' : Hp} {D : Addr} (e : Same H H') (h : H D = none) : Same H (K81.hole H' D) := fun b o hb => by
  rw [hole_ne (ne_of_none hb h)]
  exact e b o hb
theorem Same.up {H H' : Hp} {p : Addr} {o : HO} (e : Same H H') (h : H' p = none) : Same H (upd H' p o) := e.trans (same_new h)

/-! ### a comprehension whose elements leave all as it was: the list so far at D, told by A of the heap without D -/
structure LcP (H1 : Hp) (D : Addr) (A : Nat → List V → Hp → Prop) (i : Nat) (H : Hp) (acc : List V) : Prop where
  same : Same H1 (hole H D)
  at_ : H D = some (.lst acc)
  len : acc.length ≤ i
  is : A i acc (hole H D)
section
variable {H1 H H' : Hp} {D : Addr} {A : Nat → List V → Hp → Prop} {i n : Nat} {acc : List V} {y : V}
theorem lcP_start (hD : H1 D = none) (h0 : ∀ H, Same H1 H → A 0 [] H) : ∃ acc, LcP H1 D A 0 (upd H1 D (.lst [])) acc := by
  refine ⟨[], ?_, upd_same, Nat.le_refl _, ?_⟩
  · rw [hole_upd]; exact same_hole (Same.refl _) hD
  · rw [hole_upd]; exact h0 _ (same_hole (Same.refl _) hD)
theorem lcP_put (p : LcP H1 D A i H acc) (hi : i < n) (hn : n ≤ sizeLine) (e : Same H H') (a : A (i + 1) (acc ++ [y]) (hole H' D)) :
    ∃ acc, H' D = some (.lst acc) ∧ acc.length < sizeLine ∧ ∃ acc', LcP H1 D A (i + 1) (upd H' D (.lst (acc ++ [y]))) acc' := by
  have hl := p.len
  refine ⟨acc, e _ _ p.at_, by omega, acc ++ [y], ?_, upd_same, by rw [List.length_append, List.length_singleton]; omega, ?_⟩
  · rw [hole_upd]; exact p.same.trans (Same.hole e)
  · rw [hole_upd]; exact a
theorem lcP_skip (p : LcP H1 D A i H acc) (e : Same H H') (a : A (i + 1) acc (hole H' D)) : ∃ acc', LcP H1 D A (i + 1) H' acc' :=
  ⟨acc, p.same.trans (Same.hole e), e _ _ p.at_, Nat.le_succ_of_le p.len, a⟩
theorem LcP.all (p : LcP H1 D A i H acc) : Same H1 H := p.same.trans hole_sub
end
theorem yesT {σ : L2.St} {H : Hp} {F G : Hp → Prop} (h : F H) : tYes σ H (fun b H3 => if b = true then F H3 else G H3) := by
  show (if true = true then F H else G H)
  rw [if_pos rfl]
  exact h
/-- what stands at a, as it stood -/
abbrev Stood (a : Addr) (H1 H : Hp) : Prop := ∀ o, H1 a = some o → H a = some o
theorem SqL.stood {K : PySem.W.Frag} {H H' : Hp} {a : Addr} {xs : List V} (h : SqL K H a xs) (e : Stood a H H') : SqL K H' a xs := by
  rcases h with (h | ⟨o, h⟩) | h
  · exact .inl (.inl (e _ h))
  · exact .inl (.inr ⟨o, e _ h⟩)
  · exact .inr h
theorem SqT.stood {K : PySem.W.Frag} {H H' : Hp} {a : Addr} {xs : List V} (h : SqT K H a xs) (e : Stood a H H') : SqT K H' a xs := by
  rcases h with (h | ⟨o, h⟩) | h
  · exact .inl (.inl (e _ h))
  · exact .inl (.inr ⟨o, e _ h⟩)
  · exact .inr h
theorem Sq.stood {K : PySem.W.Frag} {H H' : Hp} {a : Addr} {xs : List V} (h : Sq K H a xs) (e : Stood a H H') : Sq K H' a xs := h.imp (fun z => SqL.stood z e) (fun z => SqT.stood z e)
/-! ### for x in a list or a tuple -/
def iSq (K : PySem.W.Frag) (tl : TE) : TI := fun σ H R => tl σ H fun x H1 => ∃ a xs H0, x = .ref a ∧ Sq K H0 a xs ∧ Stood a H0 H1 ∧ ∀ J, Walk J xs.length (Stood a H0) (YAt xs) → R J H1
section
variable {X : Cx} {tg l : Expr} {tl : TE}
theorem pi_sq (hl : PE X l tl) : PI X tg l (iSq X.K tl) := by
  refine ⟨fun pins s σ H R I h => ?_⟩
  refine thn (hl.run pins s σ H _ I h) fun v s1 ⟨x, H1, I1, r1, q1⟩ => ?_
  obtain ⟨a, xs, H0, e, hq, e0, q⟩ := q1
  subst e
  cases r1
  rcases hq with hq | hq
  · obtain ⟨its, rv, p, hz⟩ := I1.list (SqL.stood hq e0)
    refine wpAny_pyIter_list p.isList ?_
    refine ⟨s1.heap.objs.size, [s1.heap.objs.size], _, _, H1, rfl, I1.kept (t' := s1.toks) fun b o e => Heap.get?_push_of_some _ e, turn_list a _, ⟨_, Heap.get?_push_size _ rfl, rfl, rfl⟩, fun b hb => ?_, q _ (walk_list.mono (fun H e => SqL.stood hq e) fun _ _ _ _ _ _ y => y)⟩
    have e : b = s1.heap.objs.size := by simpa using hb
    subst e
    exact I1.fpOk (Nat.le_refl _) (I1.hok.fresh (Nat.le_refl _))
  · obtain ⟨its, rv, p, hz⟩ := I1.tuple (SqT.stood hq e0)
    refine wpAny_pyIter_tuple (show s1.heap.IsTuple a its.toArray from p) ?_
    refine ⟨s1.heap.objs.size, [s1.heap.objs.size], _, _, H1, rfl, I1.kept (t' := s1.toks) fun b o e => Heap.get?_push_of_some _ e, turn_tuple a _, ⟨_, Heap.get?_push_size _ rfl, rfl, rfl⟩, fun b hb => ?_, q _ (walk_tup.mono (fun H e => SqT.stood hq e) fun _ _ _ _ _ _ y => y)⟩
    have e : b = s1.heap.objs.size := by simpa using hb
    subst e
    exact I1.fpOk (Nat.le_refl _) (I1.hok.fresh (Nat.le_refl _))
end
/-! ### subscripts, len of lists or tuples -/
def rIxQ (K : PySem.W.Frag) : R2 := fun x y H Q => ∃ p xs i v, x = .ref p ∧ y = .int i ∧ Sq K H p xs ∧ atI xs i = some v ∧ Q v H
theorem ix_sq {X : Cx} : IxR X (rIxQ X.K) := by
  intro value slice pins s σ H x y v u Q I rx ry h hp
  obtain ⟨p, xs, i, z, ex, ey, hs, ha, q⟩ := h
  rcases hs with hs | hs
  · exact ix_list value slice pins s σ H x y v u Q I rx ry ⟨p, xs, i, z, ex, ey, hs, ha, q⟩ hp
  · exact ix_tup value slice pins s σ H x y v u Q I rx ry ⟨p, xs, i, z, ex, ey, hs, ha, q⟩ hp
/-! ### the same within blocks: K told -/
section
variable {X : Cx} {K : PySem.W.Frag}
theorem pi_sqk {tg l : Expr} {tl : TE} (hK : X.K = K) (hl : PE X l tl) : PI X tg l (iSq K tl) := by subst hK; exact pi_sq hl
theorem pi_listk {tg l : Expr} {tl : TE} (hK : X.K = K) (hl : PE X l tl) : PI X tg l (iList K tl) := by subst hK; exact pi_list hl
theorem ix_sqk (hK : X.K = K) : IxR X (rIxQ K) := by subst hK; exact ix_sq
def rTupOf (K : PySem.W.Frag) : List V → Hp → VK → Prop := fun xs H Q => ∃ p ys, xs = [.ref p] ∧ ((SqL K H p ys ∧ ∀ l, H l = none → Q (.ref l) (upd H l (.tup ys))) ∨ (SqT K H p ys ∧ Q (.ref p) H))
theorem call_tuple_ofk (hK : X.K = K) : CallR X (.type "tuple") (rTupOf K) := by subst hK; exact call_tuple_of
theorem pg_tupk {es : List Expr} {k : Nat} {pos : Pos} {t : TGs} {n : Nat} (hK : X.K = K) (hc : X.calm = true) (h : PGs X es t) (hn : (assignEach es X.env).length = n := by rfl) (hst : (assignEach es X.env).findIdx? (·.1) = none := by rfl) : PG X (.Tuple es k pos) (gTup K n t) := by
  subst hK
  exact pg_tup hc h hn hst
end
/-- rows of ints: lists or tuples of lists or tuples -/
def Rows (K : PySem.W.Frag) (H : Hp) (a : Addr) (rows : List (List Int)) : Prop := ∃ as : List Addr, Sq K H a (as.map V.ref) ∧ Paired (fun b r => Sq K H b (r.map V.int)) as rows
theorem Paired.mono {A B : Type} {F G : A → B → Prop} {l1 : List A} {l2 : List B} (h : Paired F l1 l2) (f : ∀ a b, F a b → G a b) : Paired G l1 l2 := L2.Paired.mapP h f
theorem Rows.mono {K : PySem.W.Frag} {H H' : Hp} {a : Addr} {rows : List (List Int)} (h : Rows K H a rows) (e : Same H H') : Rows K H' a rows :=
  let ⟨as, h1, h2⟩ := h; ⟨as, h1.mono e, Paired.mono h2 fun _ _ q => q.mono e⟩
theorem Paired.get {A B : Type} {F : A → B → Prop} : ∀ {l1 : List A} {l2 : List B}, Paired F l1 l2 → ∀ {i : Nat} {a : A}, l1[i]? = some a → ∃ b, l2[i]? = some b ∧ F a b
  | _, _, .nil, _, _, e => by simp at e
  | _, _, .cons r _, 0, a, e => by simp at e; subst e; exact ⟨_, rfl, r⟩
  | _, _, .cons _ t, i + 1, a, e => by
    obtain ⟨b, h1, h2⟩ := Paired.get t (i := i) (by simpa using e)
    exact ⟨b, by simpa using h1, h2⟩
theorem Paired.get' {A B : Type} {F : A → B → Prop} : ∀ {l1 : List A} {l2 : List B}, Paired F l1 l2 → ∀ {i : Nat} {b : B}, l2[i]? = some b → ∃ a, l1[i]? = some a ∧ F a b
  | _, _, .nil, _, _, e => by simp at e
  | _, _, .cons r _, 0, a, e => by simp at e; subst e; exact ⟨_, rfl, r⟩
  | _, _, .cons _ t, i + 1, a, e => by
    obtain ⟨b, h1, h2⟩ := Paired.get' t (i := i) (by simpa using e)
    exact ⟨b, by simpa using h1, h2⟩
theorem Paired.snoc {A B : Type} {F : A → B → Prop} : ∀ {l1 : List A} {l2 : List B} {a : A} {b : B}, Paired F l1 l2 → F a b → Paired F (l1 ++ [a]) (l2 ++ [b])
  | _, _, _, _, .nil, h => .cons h .nil
  | _, _, _, _, .cons r t, h => .cons r (Paired.snoc t h)
theorem Paired.len {A B : Type} {F : A → B → Prop} {l1 : List A} {l2 : List B} (h : Paired F l1 l2) : l1.length = l2.length := PySem.Paired.length h
theorem map_ref_get {as : List Addr} {i : Nat} {x : V} (h : (as.map V.ref)[i]? = some x) : ∃ b, as[i]? = some b ∧ x = .ref b := by
  rw [List.getElem?_map] at h
  cases e : as[i]? with
  | none => rw [e] at h; cases h
  | some b => rw [e] at h; exact ⟨b, rfl, (Option.some.inj h).symm⟩
theorem map_int_get {ns : List Int} {i : Nat} {x : V} (h : (ns.map V.int)[i]? = some x) : ∃ n, ns[i]? = some n ∧ x = .int n := by
  rw [List.getElem?_map] at h
  cases e : ns[i]? with
  | none => rw [e] at h; cases h
  | some b => rw [e] at h; exact ⟨b, rfl, (Option.some.inj h).symm⟩
/-- while, by a word and a measure: the shape without a side condition -/
theorem while_my {c : TT} {tb : TS} {D : Ends} {σ : L2.St} {H : Hp} (Pv : L2.St → Hp → Prop) (μ : L2.St → Hp → Nat) (h0 : Pv σ H)
    (hs : ∀ σ H, Pv σ H → c σ H fun b H1 => if b = true then ∃ N : L2.St → Hp → Prop, (∀ σ' H', N σ' H' → ∃ m', m' < μ σ H ∧ (m' = μ σ' H' ∧ Pv σ' H')) ∧ tb { D with nx := N, ct := N, bk := D.nx } σ H1 else D.nx σ H1) : tWhile c tb D σ H := by
  refine ⟨fun m σ H => m = μ σ H ∧ Pv σ H, ⟨_, rfl, h0⟩, ?_⟩
  rintro m σ H ⟨rfl, p⟩
  exact hs σ H p
/-- the loop's turn ends in the word, with less of the measure -/
theorem turn_my {Pv : L2.St → Hp → Prop} {μ : L2.St → Hp → Nat} {m : Nat} : ∀ σ' H', (Pv σ' H' ∧ μ σ' H' < m) → ∃ m', m' < m ∧ (m' = μ σ' H' ∧ Pv σ' H') := fun _ _ q => ⟨_, q.2, rfl, q.1⟩
/-- natural numbers as ints -/
abbrev toI (ns : List Nat) : List Int := ns.map fun (n : Nat) => (n : Int)
abbrev toR (st : List (List Nat)) : List (List Int) := st.map toI
theorem toI_get {ns : List Nat} {i : Nat} {z : Int} (h : (toI ns)[i]? = some z) : ∃ n, ns[i]? = some n ∧ z = (n : Int) := by
  rw [List.getElem?_map] at h
  cases e : ns[i]? with
  | none => rw [e] at h; cases h
  | some b => rw [e] at h; exact ⟨b, rfl, (Option.some.inj h).symm⟩
theorem toI_at {ns : List Nat} {i n : Nat} (h : ns[i]? = some n) : (toI ns)[i]? = some (n : Int) := by rw [List.getElem?_map, h] <;> rfl
theorem ints_at {ns : List Int} {i : Nat} {n : Int} (h : ns[i]? = some n) : (ns.map V.int)[i]? = some (.int n) := by rw [List.getElem?_map, h] <;> rfl
theorem refs_at {as : List Addr} {i : Nat} {a : Addr} (h : as[i]? = some a) : (as.map V.ref)[i]? = some (.ref a) := by rw [List.getElem?_map, h] <;> rfl
theorem flat_ints (ns : List Int) : (ns.map V.int).all flatV = true := by
  rw [List.all_eq_true]
  intro x hx
  obtain ⟨n, _, rfl⟩ := List.mem_map.mp hx
  rfl
theorem inV_int {n : Int} {ns : List Int} : inV (.int n) (ns.map V.int) = decide (n ∈ ns) := by
  unfold inV
  rw [List.any_map]
  induction ns with
  | nil => rfl
  | cons a ns ih =>
    rw [List.any_cons, ih]
    have e : (((fun y => eqV y (V.int n)) ∘ V.int) a) = decide (a = n) := by
      show eqV (.int a) (.int n) = _
      unfold eqV
      by_cases h : a = n
      · subst h; simp
      · simp [h]
    rw [e]
    by_cases h : a = n
    · subst h; simp
    · have h' : ¬ n = a := fun z => h z.symm
      simp [h, h']
theorem inV_nat {n : Nat} {ns : List Nat} : inV (.int (n : Int)) ((toI ns).map V.int) = decide (n ∈ ns) := by
  rw [inV_int]
  congr 1
  apply propext
  constructor
  · intro h
    obtain ⟨m, h1, h2⟩ := List.mem_map.mp h
    have : m = n := by omega
    rw [← this]; exact h1
  · exact fun h => List.mem_map.mpr ⟨n, h, rfl⟩
/-- the number in a slot -/
def slotN (σ : L2.St) (i : Nat) : Nat := match σ[i]? with
  | some (some (V.int n)) => n.toNat
  | _ => 0
theorem ivs_snoc (ns : List Nat) (q : Nat) : (toI (ns ++ [q])).map V.int = (toI ns).map V.int ++ [V.int (q : Int)] := by simp [toI]
theorem ivs_len (ns : List Nat) : ((toI ns).map V.int).length = ns.length := by rw [List.length_map, List.length_map]
end K81
end
section
set_option Elab.async false
set_option maxRecDepth 100000
set_option maxHeartbeats 4000000
set_option linter.all false
/-! More rules with K told, for blocks. -/
namespace K81
open PySem PySem.Spec PyProof.Rows L2
section
variable {X : Cx} {K : PySem.W.Frag} {T : String} {name : Str} {id : String} {r : V → List V → Hp → VK → Prop} {o e : Expr} {es : List Expr} {to ta te : TE} {t : TA} {apos cpos pos : Pos} {f : Str}
theorem pe_bmk (hK : X.K = K) (pa : PlainAttrs T) (slot : Slot T name id) (hty : typeOf (.builtin id) = pure (.type "method_descriptor")) (hm : MtR X id r) (ho : PE X o to) (ha : PA X (e :: es) t)
    (hbase : attributeBase o name X.env (eval o X.env) = eval o X.env := by rfl)
    (hfew : ((backTo cpos (starEach (e :: es) X.env)).all (fun x => !x.1) && (backToKw cpos (keywordEach [] X.env)).all (fun x => x.1.isSome)
      && decide ((e :: es).length + ([] : List Keyword).length + (if ([] : List Keyword).isEmpty then 0 else 1) < 30)) = true := by rfl)
    (hline : (apos.endLine == cpos.line) = true := by rfl) (hs : starEach (e :: es) X.env = (false, eval e X.env) :: starEach es X.env := by rfl) (hplain : (backTo cpos (starEach es X.env)).any (·.1) = false := by rfl) :
    PE X (.Call (.Attribute o name apos) (e :: es) [] cpos) (tBM K T r to t) := by
  subst hK
  exact pe_bm pa slot hty hm ho ha hbase hfew hline hs hplain
theorem pe_fldk (hK : X.K = K) (he : PE X e ta) (hb : attributeBase e f X.env (eval e X.env) = eval e X.env) : PE X (.Attribute e f pos) (tFld K ta f) := by
  subst hK
  exact pe_fld he hb
theorem call_len_seqk (hK : X.K = K) : CallR X (.builtin "len") (fun xs H Q => ∃ a ys, xs = [.ref a] ∧ (SqL K H a ys ∨ SqT K H a ys) ∧ Q (.int ys.length) H) := by
  subst hK
  exact call_len_seq
end
end K81
end
section
set_option Elab.async false
set_option maxRecDepth 100000
set_option maxHeartbeats 4000000
set_option linter.all false
/-! led_to -/
namespace K81
open PySem PySem.Spec PyProof.Rows L2 K81M
section
variable {P : Program} {w : World} {K : PySem.W.Frag} {mg : Str → Option Value} {base : Heap}
/-- machines in hand: rows of as many next states, all of them states -/
structure Sts (m : Nat) (st : List (List Nat)) : Prop where
  pos : 0 < st.length
  row : ∀ r ∈ st, r.length = m ∧ ∀ q ∈ r, q < st.length
  few : st.length ≤ 1000000
  let_ : m ≤ 3
theorem Sts.v {m : Nat} {st : List (List Nat)} (h : Sts m st) : Valid m st [] := ⟨h.pos, h.row, fun q hq => by cases hq⟩
theorem rows_at {H : Hp} {a : Addr} {st : List (List Nat)} (h : Rows K H a (toR st)) {q : Nat} {r : List Nat} (e : st[q]? = some r) : ∃ (as : List Addr) (b : Addr), Sq K H a (as.map V.ref) ∧ as[q]? = some b ∧ Sq K H b ((toI r).map V.int) := by
  obtain ⟨as, h1, h2⟩ := h
  obtain ⟨b, e2, h3⟩ := Paired.get' h2 (i := q) (b := toI r) (by rw [List.getElem?_map, e] <;> rfl)
  exact ⟨as, b, h1, e2, h3⟩
def spLedTo (K : PySem.W.Frag) : Sp := fun vs H Q _ => ∃ (a : Addr) (m : Nat) (st : List (List Nat)), vs = [.ref a] ∧ Rows K H a (toR st) ∧ Sts m st ∧
  ∀ (H' : Hp) (p : Addr) (states : List Nat), Same H H' → H p = none → H' p = some (.lst ((toI states).map V.int)) → Bfs (nextR m st) [0] 0 states → Q (.ref p) H'
theorem scLedTo : FnScope ["steps", "found", "at", "state"] ["steps"] (defScope sLedTo) := ⟨rfl, rfl, rfl, by decide +kernel, rfl, by decide +kernel, by decide +kernel⟩
theorem c_led_to (T : Txt K mg) : Cal P w K mg base 1 "led_to" ["steps"] (spLedTo K) := by
  refine cal sLedTo T 10 10 rfl rfl scLedTo (fun _ _ _ _ _ _ us hl => match us, hl with | [_], _ => rfl) (fun vs H Q E h => ?_) (fun cdv A outer s H vs Q E hr h => ?_)
  · obtain ⟨a, m, st, rfl, _⟩ := h
    rfl
  · obtain ⟨a, m, st, rfl, hR, hst, k⟩ := h
    refine ⟨_, pss_cons (ps_par (i := 1) (j := 2) rfl scLedTo.nd rfl rfl (by decide) rfl rfl (pa_cons (pe_lst (pa_cons pe_int pa_nil)) (pa_cons pe_int pa_nil)) (by rfl))
      (pss_cons (ps_while PassesOwn.never (pt_cmpR op_lt (pv 2) (pe_callB call_len_seq (by rfl) (T.f 0 rfl) boot_len (pa_cons (pv 1) pa_nil)) (nomark _))
        (pss_cons (ps_for PassesOwn.never rfl (pi_sq (pe_ix ix_sq (pv 0) (pe_ix ix_list (pv 1) (pv 2) (fun _ _ => rfl)) (fun _ _ => rfl))) (pg_name (i := 3) scLedTo.nd rfl (Or.inl rfl))
          (pss_one (ps_if (pt_cmpR op_notIn_seq (pv 3) (pv 1) (by rfl))
            (pss_one (ps_expr (pe_bm PySem.F.plainAttrs_list PySem.F.slot_list_append PySem.F.type_list_append mt_append (pv 1) (pa_cons (pv 3) pa_nil)))) pss_nil)))
        (pss_one (ps_set (i := 2) scLedTo.nd rfl (Or.inl rfl) (pe_op op_add (pv 2) pe_int)))))
      (pss_one (ps_ret (pv 1)))), ?_⟩
    refine ⟨by show 1 ≤ sizeLine; decide, fun f hf => ⟨_, _, rfl, ?_⟩⟩
    -- while at < len(found)
    have hv := hst.v
    refine while_my (fun σ H' => ∃ (o : List Nat) (n : Nat) (v : Option V), σ = [some (.ref a), some (.ref f), some (.int (n : Int)), v] ∧ Same H H' ∧ H' f = some (.lst ((toI o).map V.int)) ∧ o.Nodup ∧ (∀ q ∈ o, q < st.length) ∧ ∀ r, Bfs (nextR m st) o n r → Bfs (nextR m st) [0] 0 r)
      (fun σ H' => st.length - slotN σ 2) ⟨[0], 0, none, rfl, same_new hf, upd_same, List.nodup_cons.mpr ⟨by simp, List.nodup_nil⟩, fun q hq => by rw [List.mem_singleton.mp hq]; exact hst.pos, fun r h => h⟩ ?_
    rintro σ H1 ⟨o, n, v, rfl, s1, hf1, nd, lt, cont⟩
    have hol : o.length ≤ st.length := by
      have := nodup_le nd (U := List.range st.length) fun x hx => List.mem_range.mpr (lt x hx)
      rwa [List.length_range] at this
    refine ⟨_, rfl, _, rfl, f, _, rfl, .inl (SqL.of hf1), _, _, rfl, rfl, _, rfl, ?_⟩
    have el : ((toI o).map V.int).length = o.length := by rw [List.length_map, List.length_map]
    rw [el]
    refine ite2 (fun c => ?_) (fun c => ?_)
    · -- a turn
      have hn : n < o.length := by have := of_decide_eq_true c; omega
      have hx : o[n]? = some o[n] := List.getElem?_eq_getElem hn
      have hq : o[n] < st.length := lt _ (List.getElem_mem hn)
      have hrow : st[o[n]]? = some st[o[n]] := List.getElem?_eq_getElem hq
      obtain ⟨as, b, h1, h2, h3⟩ := rows_at hR hrow
      have erow := row_map hv hrow
      refine ⟨_, turn_my, ?_⟩
      refine ⟨_, rfl, _, rfl, _, rfl, f, _, _, _, rfl, rfl, SqL.of hf1, atI_nat (ints_at (toI_at hx)), a, _, _, _, rfl, rfl, h1.mono s1, atI_nat (refs_at h2), b, _, H, rfl, h3, fun o e => s1 b o e, fun J wJ => ?_⟩
      -- for state in steps[found[at]]
      refine for_it wJ (fun i σ' H2 => ∃ v', σ' = [some (.ref a), some (.ref f), some (.int (n : Int)), v'] ∧ Same H H2 ∧ H2 f = some (.lst ((toI (addAll o (st[o[n]].take i))).map V.int)))
        ⟨v, rfl, s1, hf1⟩ (fun i σ' H2 _ ⟨_, _, s2, _⟩ => fun o e => s2 b o e) ?_ ?_
      · rintro i x σ' H2 H3 hi ⟨v', rfl, s2, hf2⟩ ⟨rfl, hx2⟩
        obtain ⟨z, hz, rfl⟩ := map_int_get hx2
        obtain ⟨q, hq2, rfl⟩ := toI_get hz
        refine ⟨_, rfl, _, rfl, f, _, rfl, .inl (SqL.of hf2), rfl, flat_ints _, _, rfl, ?_⟩
        rw [inV_nat]
        have et : st[o[n]].take (i + 1) = st[o[n]].take i ++ [q] := by rw [List.take_add_one, hq2] <;> rfl
        have ea : addAll o (st[o[n]].take (i + 1)) = if q ∈ addAll o (st[o[n]].take i) then addAll o (st[o[n]].take i) else addAll o (st[o[n]].take i) ++ [q] := by
          rw [et, addAll_append] <;> rfl
        by_cases hin : q ∈ addAll o (st[o[n]].take i)
        · rw [decide_eq_true hin]
          refine iteF ⟨_, rfl, s2, ?_⟩
          rw [ea, if_pos hin]
          exact hf2
        · rw [decide_eq_false hin]
          have lt2 : (addAll o (st[o[n]].take i)).length ≤ st.length := by
            have := nodup_le (addAll_nodup (st[o[n]].take i) o nd) (U := List.range st.length) fun x hx => List.mem_range.mpr (by
              rcases (addAll_mem _ _ _).mp hx with z | z
              · exact lt x z
              · exact (hst.row _ (List.getElem_mem hq)).2 x (List.mem_of_mem_take z))
            rwa [List.length_range] at this
          have few := hst.few
          refine iteT ⟨_, rfl, .inl ⟨rfl, _, SqL.of hf2⟩, _, rfl, f, _, _, rfl, rfl, hf2, ?_, _, rfl, same_mut s2 hf, ?_⟩
          · rw [List.length_map, List.length_map, sizeLine_eq]
            omega
          · rw [ea, if_neg hin, upd_same, ivs_snoc]
      · rintro σ' H2 ⟨v', rfl, s2, hf2⟩
        have ef : st[o[n]].take ((toI st[o[n]]).map V.int).length = nextR m st o[n] := by
          rw [List.length_map, List.length_map, List.take_length, erow] <;> rfl
        rw [ef] at hf2
        refine ⟨_, rfl, _, _, rfl, rfl, ⟨addAll o (nextR m st o[n]), n + 1, v', ?_, s2, hf2, addAll_nodup _ _ nd, fun q hq2 => ?_, fun r hr => cont r (.step hx hr)⟩, ?_⟩
        · show [_, _, some (V.int ((n : Int) + 1)), _] = [_, _, some (V.int ((n + 1 : Nat) : Int)), _]
          rw [show ((n + 1 : Nat) : Int) = (n : Int) + 1 by omega]
        · rcases (addAll_mem _ _ _).mp hq2 with z | z
          · exact lt q z
          · obtain ⟨l, hl, rfl⟩ := mem_nextR.mp z
            exact hv.go hq hl
        · show st.length - ((n : Int) + 1).toNat < st.length - (n : Int).toNat
          omega
    · have hn : ¬ n < o.length := fun z => c (decide_eq_true (by omega))
      exact ⟨_, rfl, k H1 f o s1 hf hf1 (cont o (.done (by omega)))⟩
end
end K81
end
section
set_option Elab.async false
set_option maxRecDepth 100000
set_option maxHeartbeats 4000000
set_option linter.all false
/-! Sets of ints or of texts made of a list, and sorted: any kind of key that is scanned. -/
namespace K81
open PySem PySem.Spec PyProof.Rows L2
/-- a kind of key: how it is told, read, compared -/
structure SK (P : Program) (w : World) (K : Type) [DecidableEq K] where
  knd : PySem.KeyKind P w K
  kf : Value → K
  tv : K → V
  enc : K → PyData
  is_of : ∀ k v, RelV (tv k) v → knd.is k v = true
  of_is : ∀ k v, knd.is k v = true → RelV (tv k) v
  kf_is : ∀ k v, knd.is k v = true → kf v = k
  scan : ∀ k v, knd.is k v = true → v.scannable = true
  reads : ∀ (h : Heap) k v, knd.is k v = true → Reads h v (enc k) []
  like : ∀ a b, PySem.W.alike (enc a) (enc b) = true
  sorts : ∀ k, enc k ≠ .none ∧ ∀ xs, enc k ≠ .tuple xs
  depth : ∀ k, (enc k).depth = 0
section
variable {P : Program} {w : World} {K : Type} [DecidableEq K] (Z : SK P w K)
def GoodG (e : Int × Value) : Prop := Z.knd.is (Z.kf e.2) e.2 = true ∧ e.1 = Z.knd.hash (Z.kf e.2)
/-- the set at a: its members are those of kl -/
def SetG (h : Heap) (a : Addr) (kl : List K) : Prop :=
  ∃ o es ep t, h.get? a = some o ∧ o.ExactSet ∧ o.data = .set es ep t ∧ (∀ e ∈ es.toList, GoodG Z e) ∧ (es.toList.map fun e => Z.kf e.2).Nodup ∧ (∀ k, k ∈ kl ↔ k ∈ es.toList.map fun e => Z.kf e.2) ∧
    es.size < scanBound ∧ t.fits es.size = true ∧ Ris t.place.toList ∧ (w.params.followText "set-order" = true ∨ t.led = true)
variable {Z} {h h' : Heap} {a : Addr} {kl : List K} {A : Around} {E : Value → Shared → Prop} {s : Shared}
theorem SetG.at (R : SetG Z h a kl) (k : ∀ o, h.get? a = some o → h'.get? a = some o) : SetG Z h' a kl := by
  obtain ⟨o, es, ep, t, ho, r⟩ := R
  exact ⟨o, es, ep, t, k o ho, r⟩
theorem SetG.congr {kl' : List K} (R : SetG Z h a kl) (e : ∀ k, k ∈ kl' ↔ k ∈ kl) : SetG Z h a kl' := by
  obtain ⟨o, es, ep, t, ho, hx, hd, g, nd, hm, r⟩ := R
  exact ⟨o, es, ep, t, ho, hx, hd, g, nd, fun k => (e k).trans (hm k), r⟩
theorem goodG_elems {l : List (Int × Value)} (g : ∀ e ∈ l, GoodG Z e) : ElemsOf Z.knd l := fun e he => ⟨⟨_, g e he⟩, Z.scan _ _ (g e he).1⟩
theorem goodG_is {e : Int × Value} (g : GoodG Z e) (k : K) : Z.knd.is k e.2 = true ↔ Z.kf e.2 = k :=
  ⟨fun q => Z.kf_is _ _ q, fun q => by rw [← q]; exact g.1⟩
theorem goodG_mem {l : List (Int × Value)} (g : ∀ e ∈ l, GoodG Z e) (k : K) : (k ∈ l.map fun e => Z.kf e.2) ↔ ∃ e ∈ l, Z.knd.is k e.2 = true := by
  rw [List.mem_map]
  exact ⟨fun ⟨e, he, q⟩ => ⟨e, he, (goodG_is (g e he) k).2 q⟩, fun ⟨e, he, q⟩ => ⟨e, he, (goodG_is (g e he) k).1 q⟩⟩
/-- the table is relaid, or not -/
theorem setG_tail {g : Bool → Sem Unit} (hg : ∀ (b : Bool) (s1 : Shared) (Q' : Unit → Shared → Prop), Q' () s1 → wpAny (model P w) A (g b) Q' E s1)
    {o : Obj} {es : Array (Int × Value)} {ep : Nat} {t : SetTable} (ho : s.heap.get? a = some o) (hex : o.ExactSet) (hd : o.data = .set es ep t)
    {es1 : Array (Int × Value)} {t2 : SetTable} {kl' : List K} (g1 : ∀ e ∈ es1.toList, GoodG Z e) (nd1 : (es1.toList.map fun e => Z.kf e.2).Nodup) (m1 : ∀ k, k ∈ kl' ↔ k ∈ es1.toList.map fun e => Z.kf e.2)
    (hb1 : es1.size < scanBound) (hf2 : t2.fits es1.size = true) (hr : Ris t2.place.toList) (hl : w.params.followText "set-order" = true ∨ t2.led = true) {wasDummy : Bool} {R : Option Bool → Shared → Prop}
    (hR : ∀ h', Heap.SameBut a s.heap h' → SetG Z h' a kl' → R (some true) { s with heap := h' }) :
    wpAny (model P w) A (do
        storeSet a es1 t2
        if (!wasDummy && t2.tooFull) = true then do
            g (relayAll t2 es1 (SetTable.grown es1.size)).2.2
            storeSet a (relayAll t2 es1 (SetTable.grown es1.size)).1 (relayAll t2 es1 (SetTable.grown es1.size)).2.1
            pure (some true)
          else pure (some true)) R E s := by
  have ho1 := store_at (es' := es1) (t' := t2) ho hd
  have sb1 := Heap.SameBut.update s.heap a (Obj.putSet es1 t2)
  refine wpAny_bind (wpAny_storeSet_of ho hd ?_ (fits_of_scanBound hb1))
  split
  · have k1 := relayAll_perm t2 es1 (SetTable.grown es1.size)
    have k2 := relayAll_fits t2 es1 (SetTable.grown es1.size)
    have k3 := relayAll_ris t2 es1 (SetTable.grown es1.size)
    have k4 := relayAll_led t2 es1 (SetTable.grown es1.size)
    generalize relayAll t2 es1 (SetTable.grown es1.size) = Y at k1 k2 k3 k4 ⊢
    obtain ⟨es2, t3, gave⟩ := Y
    dsimp only at k1 k2 k3 k4 ⊢
    have hb2 : es2.size < scanBound := by
      have e : es2.size = es1.size := by rw [← Array.length_toList, k1.length_eq, Array.length_toList]
      rw [e]; exact hb1
    refine wpAny_bind (hg _ _ _ (wpAny_bind (wpAny_storeSet_of ho1 rfl ?_ (fits_of_scanBound hb2))))
    refine wpAny_pure (hR _ (sb1.trans (Heap.SameBut.update _ a _)) ⟨_, es2, _, t3, store_at (es' := es2) (t' := t3) ho1 rfl, hex, rfl, fun e he => g1 e (k1.mem_iff.mp he), (k1.map _).nodup_iff.mpr nd1, fun k => (m1 k).trans (k1.map _).mem_iff.symm, hb2, k2, k3, ?_⟩)
    exact hl.imp id fun z => by rw [k4]; exact z
  · exact wpAny_pure (hR _ sb1 ⟨_, es1, _, t2, ho1, hex, rfl, g1, nd1, m1, hb1, hf2, hr, hl⟩)
theorem size_le {es : Array (Int × Value)} (nd : (es.toList.map fun e => Z.kf e.2).Nodup) (hm : ∀ k, k ∈ kl ↔ k ∈ es.toList.map fun e => Z.kf e.2) {U : List K} (sub : ∀ k ∈ kl, k ∈ U) : es.size ≤ U.length := by
  have q : ∀ (l m : List K), l.Nodup → (∀ x ∈ l, x ∈ m) → l.length ≤ m.length := by
    intro l
    induction l with
    | nil => intro m _ _; exact Nat.zero_le _
    | cons x l ih =>
      intro m hn hs
      have hx := hs x List.mem_cons_self
      have := ih (m.erase x) (List.nodup_cons.mp hn).2 fun y hy => (List.mem_erase_of_ne (by rintro rfl; exact (List.nodup_cons.mp hn).1 hy)).mpr (hs y (List.mem_cons_of_mem _ hy))
      have e1 := List.length_erase_of_mem hx
      have e2 := List.length_pos_of_mem hx
      rw [List.length_cons]
      omega
  have := q _ U nd fun x hx => sub x ((hm x).mpr hx)
  rwa [List.length_map, Array.length_toList] at this
/-- one more member -/
theorem setG_add {k : K} {v : Value} {Q : Bool → Shared → Prop} {U : List K} (R : SetG Z s.heap a kl) (sub : ∀ k ∈ kl, k ∈ U) (room : U.length + 1 < scanBound) (hv : Z.knd.is k v = true)
    (hQ : ∀ b h', Heap.SameBut a s.heap h' → SetG Z h' a (kl ++ [k]) → Q b { s with heap := h' }) : wpAny (model P w) A (setAddHashed a v (Z.knd.hash k)) Q E s := by
  obtain ⟨o, es, ep, t, ho, hex, hd, g, nd, hm, hb, hf, hr, hl⟩ := R
  have hsz := size_le nd hm sub
  have hsc := Z.scan k v hv
  have hel : ElemsOf Z.knd es.toList := goodG_elems g
  unfold setAddHashed setAddHashedIn
  refine wpAny_holding (wpAny_bind (wpAny_setState_of ho hd hf ?_))
  dsimp only
  rw [byScan_of hsc hb hel]
  simp only [↓reduceIte]
  unfold setAddByScan
  refine wpAny_bind (wpAny_bind (wpAny_rule (wpAny_bind (wpAny_setScan_of hv ho hd hf hel ?_))))
  cases hfi : List.findIdx? (fun e => Z.knd.is k e.2) es.toList with
  | some j =>
    obtain ⟨hj, pj, _⟩ := List.findIdx?_eq_some_iff_getElem.mp hfi
    have hk : k ∈ kl := (hm k).2 ((goodG_mem g k).2 ⟨es.toList[j], List.getElem_mem hj, pj⟩)
    dsimp only
    refine wpAny_pure (wpAny_pure (hQ _ s.heap (Heap.SameBut.refl a s.heap) ⟨o, es, ep, t, ho, hex, hd, g, nd, fun i => ?_, hb, hf, hr, hl⟩))
    rw [List.mem_append, List.mem_singleton, ← hm i]
    exact ⟨fun z => z.elim id (fun e => e ▸ hk), .inl⟩
  | none =>
    dsimp only
    have hnk : k ∉ es.toList.map fun e => Z.kf e.2 := fun z => by
      obtain ⟨e, he, q⟩ := (goodG_mem g k).1 z
      have c := List.findIdx?_eq_none_iff.mp hfi e he
      rw [q] at c
      cases c
    have ek : Z.kf v = k := Z.kf_is k v hv
    have hgw : ∀ (b : Bool) {s1 : Shared} {Q' : Unit → Shared → Prop}, Q' () s1 → wpAny (model P w) A (match b with | true => rule "set.scan.the-table-gave-way" | false => pure ()) Q' E s1 :=
      fun b s1 Q' q => by cases b <;> first | exact wpAny_pure q | exact wpAny_rule q
    have k1 := layNew_perm t es (Z.knd.hash k) v
    have k2 := layNew_fits t es (Z.knd.hash k) v
    have k3 := layNew_ris t es (Z.knd.hash k) v hr
    have k4 := layNew_led t es (Z.knd.hash k) v
    generalize layNew t es (Z.knd.hash k) v = Y at k1 k2 k3 k4 ⊢
    obtain ⟨es1, t1, wasDummy, gave⟩ := Y
    dsimp only at k1 k2 k3 k4 ⊢
    rw [Array.toList_push] at k1
    have pc : es1.toList.Perm ((Z.knd.hash k, v) :: es.toList) := k1.trans (List.perm_append_singleton _ _)
    have pk : (es1.toList.map fun e => Z.kf e.2).Perm (k :: es.toList.map fun e => Z.kf e.2) := by
      have := pc.map fun e => Z.kf e.2
      rw [List.map_cons] at this
      rw [← ek]
      rw [ek] at this ⊢
      exact this
    have g1 : ∀ e ∈ es1.toList, GoodG Z e := fun e he => by
      rcases List.mem_cons.mp (pc.mem_iff.mp he) with z | z
      · rw [z]
        unfold GoodG
        rw [ek]
        exact ⟨hv, rfl⟩
      · exact g e z
    have nd1 : (es1.toList.map fun e => Z.kf e.2).Nodup := pk.nodup_iff.mpr (List.nodup_cons.mpr ⟨hnk, nd⟩)
    have m1 : ∀ i, i ∈ kl ++ [k] ↔ i ∈ es1.toList.map fun e => Z.kf e.2 := fun i => by
      rw [List.mem_append, List.mem_singleton, hm i, pk.mem_iff, List.mem_cons]
      exact Or.comm
    have hb1 : es1.size < scanBound := by
      have e : es1.size = es.size + 1 := by rw [← Array.length_toList, pc.length_eq, List.length_cons, Array.length_toList]
      omega
    have hled : w.params.followText "set-order" = true ∨ t1.led = true := hl.imp id fun z => by rw [k4]; exact z
    refine wpAny_bind (hgw _ ?_)
    split
    · refine wpAny_bind ?_
      rw [hashByValue_scannable 8 hsc]
      refine wpAny_pure (setG_tail ?_ ho hex hd g1 nd1 m1 hb1 ?_ ?_ ?_ ?_)
      · intro b s1 Q' q; cases b <;> first | exact wpAny_pure q | exact wpAny_rule q
      · first | (split <;> first | exact k2 | exact SetTable.fits_plain_off k2) | exact k2
      · first | (split <;> exact k3) | exact k3
      · first | (split <;> exact hled) | exact hled
      · intro h' sb r; dsimp only; exact wpAny_pure (hQ _ h' sb r)
    · refine wpAny_bind (wpAny_pure ?_)
      simp only [↓reduceIte]
      refine setG_tail ?_ ho hex hd g1 nd1 m1 hb1 k2 k3 hled ?_
      · intro b s1 Q' q; cases b <;> first | exact wpAny_pure q | exact wpAny_rule q
      · intro h' sb r; dsimp only; exact wpAny_pure (hQ _ h' sb r)
/-- set.update over a walk -/
theorem setG_update {I : Addr} {fp wr : List Addr} {G : Array GenState → Array GenState → Prop} {n : Nat} {Pv : Nat → Value → Prop} {St : Nat → Shared → Prop} {R : Result → Shared → Prop}
    (W : WalksS P w A.in1 I fp wr G n Pv St) (S : Addr) (hSf : S ∉ fp) (ks : List K) {U : List K} (hn : n = ks.length) (hU : ∀ k ∈ ks, k ∈ U) (hb : U.length + 1 < scanBound) (hval : ∀ i v, Pv i v → ∃ k, ks[i]? = some k ∧ Z.knd.is k v = true) :
    ∀ (j i : Nat) (s : Shared), n - i = j → i ≤ n → St i s → SetG Z s.heap S (ks.take i) →
      (∀ s', Moved (S :: wr) G s s' → SetG Z s'.heap S ks → R (.ok (.ret .none)) s') → codeAny (model P w) A (.builtin "set.update.loop" ⟨[.ref S, .ref I], []⟩) R s := by
  have hSw : S ∉ wr := fun h => hSf (W.sub _ h)
  have hsub : ∀ b ∈ wr, b ∈ S :: wr := fun b hb => List.mem_cons_of_mem _ hb
  intro j
  induction j with
  | zero =>
    intro i s hj hi hst hS hR
    have e : ks.take i = ks := List.take_of_length_le (by omega)
    have hin : i = n := by omega
    subst hin
    rw [e] at hS
    refine codeAny_builtin F.entry_set_update_loop ?_
    rw [Around.under_plainId F.plain_set_update_loop _]
    show wpAny _ A.in1 (pyNext (.ref I) >>= _) _ _ s
    refine wpAny_bind (W.done s _ _ hst fun s' hm => ?_)
    show wpAny _ A.in1 (ret Value.none) _ _ s'
    exact wpAny_pure (hR s' (hm.mono hsub) (hS.at fun o e => hm.heap S o hSw e))
  | succ j ih =>
    intro i s hj hi hst hS hR
    have hlt : i < n := by omega
    refine codeAny_builtin F.entry_set_update_loop ?_
    rw [Around.under_plainId F.plain_set_update_loop _]
    show wpAny _ A.in1 (pyNext (.ref I) >>= _) _ _ s
    refine wpAny_bind (W.item i s _ _ hlt hst fun v s' hP hst' hm => ?_)
    obtain ⟨k, hk, hv⟩ := hval i v hP
    have hS' : SetG Z s'.heap S (ks.take i) := hS.at fun o e => hm.heap S o hSw e
    show wpAny _ A.in1 (holding [v] (setAdd S v) >>= _) _ _ s'
    refine wpAny_bind (wpAny_holding ?_)
    unfold setAdd
    refine wpAny_holding (wpAny_bind (Z.knd.pyHash hv ?_))
    refine setG_add (U := U) (s := { s' with toks := s'.toks + 1 }) hS' (fun x hx => hU x (List.mem_of_mem_take hx)) hb hv fun bb h' hsb hS2 => ?_
    have hS3 : SetG Z h' S (ks.take (i + 1)) := hS2.congr fun x => by rw [List.take_add_one, hk]; exact Iff.rfl
    refine wpAny_pure ⟨plainId_quiet F.plain_set_update_loop _, ih (i + 1) _ (by omega) hlt (W.frame _ s' _ _ hst' (Nat.le_succ _) fun b hb o e => ?_) hS3 fun s'' hm'' hS'' => ?_⟩
    · rw [hsb.2 b (fun h : b = S => hSf (by rw [← h]; exact hb))]; exact e
    · refine hR s'' (Moved.trans W.gtrans ((hm.mono hsub).then_heap (Nat.le_succ _) fun b o hb e => ?_) hm'') hS''
      rw [hsb.2 b (fun h : b = S => hb (by rw [h]; exact List.mem_cons_self))]; exact e
end
end K81
end
section
set_option Elab.async false
set_option maxRecDepth 100000
set_option maxHeartbeats 4000000
set_option linter.all false
/-! set(list), sorted(set) for such kinds. -/
namespace K81
open PySem PySem.Spec PyProof.Rows L2
section
variable {P : Program} {w : World} {K : Type} [DecidableEq K] {Z : SK P w K} {A : Around} {E : Value → Shared → Prop} {s : Shared}
abbrev newSetO (w : World) : Obj := { cls := .type "set", dict := none, data := .set #[] 0 (.fresh 0 0 (!w.params.followText "set-order")) }
theorem setG_empty {h : Heap} {a : Addr} (ho : h.get? a = some (newSetO w)) : SetG Z h a [] :=
  ⟨_, #[], 0, _, ho, ⟨rfl, rfl, rfl⟩, rfl, (fun e he => by simp at he), (by simp), (fun k => by simp), (by decide), (by rfl), List.Pairwise.nil, by
    show _ ∨ (!w.params.followText "set-order") = true
    cases w.params.followText "set-order"
    · exact .inr rfl
    · exact .inl rfl⟩
theorem setG_of_list {l : Addr} {items : Array Value} (ks : List K) {Q : Value → Shared → Prop} (hh : A.handled = none) (hl : s.heap.IsList l items) (hit : Paired (fun v k => Z.knd.is k v = true) items.toList ks) {U : List K} (hU : ∀ k ∈ ks, k ∈ U) (hb : U.length + 1 < scanBound)
    (h : ∀ (h' : Heap) (tk : Nat), SetG Z h' s.heap.objs.size ks → (∀ b o, s.heap.get? b = some o → h'.get? b = some o) → Q (.ref s.heap.objs.size) { s with heap := h', toks := tk }) :
    wpAny (model P w) A (call (.type "set") [.ref l]) Q E s := by
  have hisz : items.size = ks.length := by
    have q := PySem.Paired.length hit
    rwa [Array.length_toList] at q
  obtain ⟨c, tl, hmro⟩ := F.called_set.mro
  have hmade := F.called_set.made
  have hsub := F.called_set.sub
  refine wpAny_call (codeAny_of_tree ?_)
  show wpAny _ _ (callAny (.type "set") _) _ _ _
  refine wpAny_pure ⟨Code.quiet_builtin _ (by decide +kernel), codeAny_builtin F.entry_type_call ?_⟩
  rw [Around.under_plain (weight_type_call_type "set" [.ref l] []) rfl]
  have h1 := F.called_set.notType
  have h2 := F.called_set.canCreate
  have hct := F.typeCall_set_1 (.ref l)
  repeat (any_goals (first | assumption | wp_step))
  refine codeAny_mono (code_set_led1 (.ref l) (E := E) (Q₁ := fun obj s1 => obj = .ref s.heap.objs.size ∧ s1 = { s with heap := s.heap.push (newSetO w) }) ⟨rfl, rfl⟩) fun r s1 hr => ?_
  cases r with
  | error e => exact hr
  | ok fl =>
    cases fl with
    | ret obj =>
      obtain ⟨rfl, rfl⟩ := hr
      have hS : (s.heap.push (newSetO w)).get? s.heap.objs.size = some (newSetO w) := Heap.get?_push_size _ rfl
      have hT : Shared.TypeIs { s with heap := s.heap.push (newSetO w) } (.ref s.heap.objs.size) "set" := ⟨_, hS, rfl⟩
      have hli := F.called_set.init.lookup
      have hbi := F.called_set.init.bind (.ref s.heap.objs.size)
      repeat (any_goals (first | assumption | wp_step))
      refine codeAny_mono (codeAny_call_builtin (R := wants (fun r s2 => r = .none ∧ ∃ h' tk, s2 = { s with heap := h', toks := tk } ∧ SetG Z h' s.heap.objs.size ks ∧ (∀ b o, s.heap.get? b = some o → h'.get? b = some o)) E)
        F.called_set.init.plain F.entry_set_init (check_set_init_1 hT ?_)) fun r2 s2 hr2 => ?_
      · obtain ⟨ol, hol, hcl, nl, hdl⟩ := hl
        obtain ⟨ocls, odict, odata, oslots⟩ := ol
        simp only at hcl hdl
        subst hcl; subst hdl
        have hol' : (s.heap.push (newSetO w)).get? l = some { cls := .type "list", dict := odict, data := .seq items nl, slots := oslots } := Heap.get?_push_of_some _ hol
        have hsls := F.sub_list_set
        have hslf := F.sub_list_frozenset
        have hne : (Value.type "list" == Value.type "dict") = false := by decide
        have hl1 : (s.heap.push (newSetO w)).IsList l items := ⟨_, hol', rfl, nl, rfl⟩
        unfold Builtin.«set.__init__» noKeywords Builtin.Frozenset.updateFrom
        generalize hPI : pyIter = PI
        wp_walk
        subst hPI
        refine wpAny_pyIter_list hl1 (wpAny_bind (wpAny_runValue ?_))
        have hlS : l < s.heap.objs.size := Heap.lt_size hol
        have hh3 : A.in1.in1.in1.handled = none := by simp [hh]
        have hneI : l ≠ (s.heap.push (newSetO w)).objs.size := by rw [Heap.size_push]; exact Nat.ne_of_lt (Nat.lt_succ_of_lt hlS)
        have hSf : s.heap.objs.size ∉ [(s.heap.push (newSetO w)).objs.size, l] := by
          rw [Heap.size_push]; simp only [List.mem_cons, List.mem_singleton, List.not_mem_nil, or_false, not_or]
          exact ⟨Nat.ne_of_lt (Nat.lt_succ_self _), Nat.ne_of_gt hlS⟩
        have hval : ∀ (i : Nat) (v : Value), items[i]? = some v → ∃ k, ks[i]? = some k ∧ Z.knd.is k v = true := fun i v hv => Paired.get hit (by rw [Array.getElem?_toList]; exact hv)
        refine setG_update ((Walks.list hh3 _ l hneI items).toS) s.heap.objs.size hSf ks hisz hU hb hval (items.size - 0) 0 _ (by omega) (Nat.zero_le _)
          ⟨⟨_, Heap.get?_push_size _ rfl, rfl, rfl⟩, (hl1.push _)⟩ ?hS0 ?hR
        case hS0 => exact setG_empty (Heap.get?_push_of_some _ hS)
        case hR =>
          intro s' hm hS'
          obtain ⟨h', g2, d', tk', os'⟩ := s'
          have eg : g2 = s.gens := hm.gens
          have ed : d' = s.drawn := hm.drawn
          have eo : os' = s.os := hm.os
          subst eg; subst ed; subst eo
          show wpAny _ _ _ _ _ _
          refine wpAny_pure ?_
          show wpAny _ _ (ret Value.none) _ _ _
          refine wpAny_pure ⟨rfl, h', tk', rfl, hS', fun b o e => ?_⟩
          have hb0 : b < s.heap.objs.size := Heap.lt_size e
          exact hm.heap b o (by
            rw [Heap.size_push]
            simp only [List.mem_cons, List.not_mem_nil, or_false, not_or]
            exact ⟨Nat.ne_of_lt hb0, Nat.ne_of_lt (Nat.lt_succ_of_lt hb0)⟩) (Heap.get?_push_of_some _ (Heap.get?_push_of_some _ e))
      · cases r2 with
        | error e => exact hr2
        | ok fl2 =>
          cases fl2 with
          | ret r =>
            obtain ⟨rfl, h', tk, rfl, hS', hk'⟩ := hr2
            repeat (any_goals (first | assumption | wp_step))
            exact h _ _ hS' hk'
          | _ => exact hr2.elim
    | _ => exact hr.elim
end
end K81
end
section
set_option Elab.async false
set_option maxRecDepth 100000
set_option maxHeartbeats 4000000
set_option linter.all false
/-! sorted(set). -/
namespace K81
open PySem PySem.Spec PyProof.Rows L2
section
variable {P : Program} {w : World} {K : Type} [DecidableEq K] {Z : SK P w K} {A : Around} {E : Value → Shared → Prop} {s : Shared}
/-- sorted(set): some arrangement of its members, none twice -/
theorem sorted_setG {a : Addr} {kl : List K} {Q : Value → Shared → Prop} (R : SetG Z s.heap a kl) (hh : A.handled = none) (hu : A.units + 64 < cLine)
    (hQ : ∀ s' p (out : List Value) (c : Nat) (ks : List K), (∀ b o, s.heap.get? b = some o → s'.heap.get? b = some o) → s'.gens = s.gens → s'.os = s.os → s.heap.objs.size ≤ p →
      s'.heap.get? p = some (seqObj "list" (List.toArray out) c) → Paired (fun v k => Z.knd.is k v = true) out ks → ks.Nodup → (∀ k, k ∈ ks ↔ k ∈ kl) → ks.length ≤ sizeLine → Q (.ref p) s') :
    wpAny (model P w) A (call (.builtin "sorted") [.ref a]) Q E s := by
  obtain ⟨o, es, ep, t, ho, hex, hd, g, nd, hm, hb, hf, hr, hl⟩ := R
  refine Calls.call_function_entry kind_sorted plain_sorted entry_sorted (args_sorted1 _) ?_
  unfold Builtin.«sorted»
  refine wpAny_bind (m := checkCount "sorted" 1 1 _) (wpAny_pure ?_)
  refine wpAny_bind (collect_set (A := A.in1) hh ⟨o, ho, hex.1, hd⟩ hf hb hr hl fun s1 vs k1 hz g1 o1 pm => ?_)
  have hvl : vs.length = es.size := by rw [pm.length_eq, List.length_map, Array.length_toList]
  have hvz : vs.length ≤ sizeLine := by rw [hvl]; exact fits_of_scanBound hb
  have hgood : ∀ v ∈ vs, Z.knd.is (Z.kf v) v = true := fun v hv => by
    obtain ⟨e, he, q⟩ := List.mem_map.mp (pm.mem_iff.mp hv)
    rw [← q]; exact (g e he).1
  have pk : (vs.map Z.kf).Perm (es.toList.map fun e => Z.kf e.2) := by
    have q := pm.map Z.kf
    rw [List.map_map] at q
    exact q
  have each : ∀ (l : List Value), (∀ v ∈ l, Z.knd.is (Z.kf v) v = true) → PySem.W.EachIs (fun v k => Z.knd.is k v = true) l (l.map Z.kf) := by
    intro l
    induction l with
    | nil => intro _; exact .nil
    | cons v l ih => intro h; exact .cons (h v List.mem_cons_self) (ih fun u hu => h u (List.mem_cons_of_mem _ hu))
  refine wpAny_bind (wpAny_newList ?_ hvz)
  have hoL : (s1.heap.push (seqObj "list" vs.toArray 0)).get? s1.heap.objs.size = some (seqObj "list" vs.toArray 0) := Heap.get?_push_size _ rfl
  refine wpAny_bind (wpAny_holding (PySem.W.list_sort_data (enc := Z.enc) (bs := vs.map Z.kf) hoL (each vs hgood) ((each vs hgood).mono fun v k q => ?_) (PySem.W.AllAlike.of Z.like) (PySem.W.Sortable.others Z.sorts) (by rw [List.length_map]; exact hvz) (fun b _ => ?_) fun out hol heo => ?_))
  · exact ⟨[], Z.reads _ k v q, by simp⟩
  · rw [Z.depth b]
    show A.units + 1 + 1 + 0 < cLine
    omega
  · obtain ⟨c, hc⟩ := sortedHeap_at (vs := vs) (out := List.toArray out) hoL
    have pn : ((vs.map Z.kf).mergeSort (PySem.W.dataLe false Z.enc)).Perm (es.toList.map fun e => Z.kf e.2) := (List.mergeSort_perm _ _).trans pk
    have pe : ∀ {l : List Value} {m : List K}, PySem.W.EachIs (fun v k => Z.knd.is k v = true) l m → Paired (fun v k => Z.knd.is k v = true) l m := by
      intro l m h
      induction h with
      | nil => exact .nil
      | cons h1 _ ih => exact .cons h1 ih
    refine wpAny_pure ⟨_, rfl, hQ _ s1.heap.objs.size out c _ (fun b u e => ?_) g1 o1 hz hc (pe heo) (pn.nodup_iff.mpr nd) (fun k => by rw [pn.mem_iff, hm k]) ?_⟩
    · have q := k1 b u e
      have hlt := Heap.lt_size q
      show (sortedHeap (s1.heap.push (seqObj "list" vs.toArray 0)) s1.heap.objs.size vs (List.toArray out)).get? b = some u
      rw [sortedHeap_old (Nat.ne_of_lt hlt) (by rw [Heap.size_push]; exact Nat.lt_succ_of_lt hlt)]
      exact Heap.get?_push_of_some _ q
    · rw [pn.length_eq, List.length_map, Array.length_toList]
      exact fits_of_scanBound hb
end
end K81
end
section
set_option Elab.async false
set_option maxRecDepth 100000
set_option maxHeartbeats 4000000
set_option linter.all false
/-! set(xs), sorted(set(xs)) as calls of the hand layer; the kinds: ints, texts. -/
namespace K81
open PySem PySem.Spec PyProof.Rows L2
def keyOfV : Value → Int
  | .int k _ => k
  | _ => 0
def ZI (P : Program) (w : World) : SK P w Int where
  knd := intKind P w
  kf := keyOfV
  tv := V.int
  enc := .int
  is_of := fun k v h => by obtain ⟨t, rfl⟩ := h; exact intKind_is P w k t
  of_is := fun k v h => by obtain ⟨t, rfl⟩ := Value.isInt_shape h; exact ⟨t, rfl⟩
  kf_is := fun k v h => by obtain ⟨t, rfl⟩ := Value.isInt_shape h; rfl
  scan := fun k v h => by obtain ⟨t, rfl⟩ := Value.isInt_shape h; rfl
  reads := fun h k v q => by obtain ⟨t, rfl⟩ := Value.isInt_shape q; exact Reads.int k t
  like := fun a b => by simp [PySem.W.alike]
  sorts := fun k => ⟨(fun z => nomatch z), fun xs z => nomatch z⟩
  depth := fun k => by simp [PyData.depth]
def strOfV : Value → Str
  | .str x _ => x
  | _ => Str.empty
def ZS (P : Program) (w : World) : SK P w Str where
  knd := strKind P w
  kf := strOfV
  tv := V.str
  enc := .str
  is_of := fun k v h => by obtain ⟨t, rfl⟩ := h; exact strKind_is P w k t
  of_is := fun k v h => by obtain ⟨t, rfl⟩ := Value.isStrOf_shape h; exact ⟨t, rfl⟩
  kf_is := fun k v h => by obtain ⟨t, rfl⟩ := Value.isStrOf_shape h; rfl
  scan := fun k v h => by obtain ⟨t, rfl⟩ := Value.isStrOf_shape h; rfl
  reads := fun h k v q => by obtain ⟨t, rfl⟩ := Value.isStrOf_shape q; exact Reads.str k t
  like := fun a b => by simp [PySem.W.alike]
  sorts := fun k => ⟨(fun z => nomatch z), fun xs z => nomatch z⟩
  depth := fun k => by simp [PyData.depth]
section
variable {K : Type} [DecidableEq K] {P : Program} {w : World} (Z : SK P w K)
def SetGO (a : Addr) (kl : List K) : HO := .ext fun h => SetG Z h a kl
theorem setGO_new {H : Hp} {h : Heap} {a : Addr} {kl : List K} (R : SetG Z h a kl) : ObjOk P w H h a (SetGO Z a kl) := by
  have ⟨o, _, _, _, ho, _⟩ := R
  exact ⟨R, ⟨o, ho⟩, fun h1 h2 p k => SetG.at p k⟩
theorem paired_is : ∀ {us : List Value} {ks : List K}, Vals (ks.map Z.tv) us → Paired (fun v k => Z.knd.is k v = true) us ks
  | _, [], h => by cases h; exact .nil
  | _, k :: ks, h => by
    have h' : Vals (Z.tv k :: ks.map Z.tv) _ := h
    cases h' with
    | cons r t => exact .cons (Z.is_of k _ r) (paired_is t)
theorem vals_is : ∀ {us : List Value} {ks : List K}, Paired (fun v k => Z.knd.is k v = true) us ks → Vals (ks.map Z.tv) us
  | _, _, .nil => .nil
  | _, _, .cons r t => .cons (Z.of_is _ _ r) (vals_is t)
end
section
variable {X : Cx} {K : Type} [DecidableEq K] (Z : SK X.prog X.w K)
def rSetL (KK : PySem.W.Frag) {P : Program} {w : World} (Z : SK P w K) : List V → Hp → VK → Prop := fun xs H Q => ∃ (l : Addr) (ks : List K), xs = [V.ref l] ∧ SqL KK H l (ks.map Z.tv) ∧ (∃ U : List K, (∀ k ∈ ks, k ∈ U) ∧ U.length < 4000) ∧ ∀ p, H p = none → Q (.ref p) (upd H p (SetGO Z p ks))
theorem cr_setL (hc : X.calm = true) : CallR X (.type "set") (rSetL X.K Z) := by
  intro pins s σ H xs us Q I r h
  obtain ⟨l, ks, rfl, hs, ⟨U, hU, hb⟩, q⟩ := h
  obtain ⟨its, rv, hl, _⟩ := I.list hs
  rw [Vals.ref1 r]
  refine setG_of_list (Z := Z) ks (I.ok.hd hc) hl.isList (by simpa using paired_is Z rv) (U := U) hU (by unfold scanBound; omega) fun h' tk R hk => ?_
  exact ⟨.ref _, upd H s.heap.objs.size (SetGO Z s.heap.objs.size ks), I.laid (t' := tk) hk (Nat.le_refl _) (setGO_new Z R), rfl, q _ (I.hok.fresh (Nat.le_refl _))⟩
def rSortedG {P : Program} {w : World} (Z : SK P w K) : List V → Hp → VK → Prop := fun xs H Q => ∃ (a : Addr) (kl : List K), xs = [V.ref a] ∧ H a = some (SetGO Z a kl) ∧ ∀ (p : Addr) (ks : List K), H p = none → ks.Nodup → (∀ k, k ∈ ks ↔ k ∈ kl) → Q (.ref p) (upd H p (.lst (ks.map Z.tv)))
theorem cr_sortedG (hc : X.calm = true) (hu : X.A.units + 64 < cLine) : CallR X (.builtin "sorted") (rSortedG Z) := by
  intro pins s σ H xs us Q I r h
  obtain ⟨a, kl, rfl, ha, q⟩ := h
  have R : SetG Z s.heap a kl := (I.hok a _ ha).1
  rw [Vals.ref1 r]
  refine sorted_setG (Z := Z) R (I.ok.hd hc) hu fun s' p out c ks k g o hp hg hi nd hm hz => ?_
  have hn : H p = none := I.hok.fresh hp
  have J : Inv X pins σ (upd H p (.lst (ks.map Z.tv))) { s with heap := s'.heap, gens := s'.gens, drawn := s'.drawn, toks := s'.toks } :=
    I.call (ch := []) (Un.laid k hp hn) (I.hok.laid k hp ⟨by rw [List.length_map]; exact hz, out, c, vals_is Z hi, hg⟩) (by rw [g]; exact I.bare) (fun _ z => nomatch z)
  have e : s' = { s with heap := s'.heap, gens := s'.gens, drawn := s'.drawn, toks := s'.toks } := by
    cases s'
    cases s
    cases o
    rfl
  rw [e]
  exact ⟨.ref p, _, J, rfl, q p ks hn nd hm⟩
end
end K81
end
section
set_option Elab.async false
set_option maxRecDepth 100000
set_option maxHeartbeats 4000000
set_option linter.all false
/-! Dicts: setdefault of tuple keys; list(d.values()); dicts whose keys are tuples of tuples of ints. -/
namespace K81
open PySem PySem.Spec PyProof.Rows L2
/-! ### setdefault, tuple keys -/
def tDSetdT (td ty tx : TE) : TE := fun σ H Q => td σ H fun x H1 => ∃ a, x = .ref a ∧ IsD H1 a ∧ ty σ H1 fun y H2 => tx σ H2 fun z H3 => ∃ (kvs : List (List Key × V)) (k : List Key) (b : Addr), H3 a = some (.dT kvs) ∧ y = .ref b ∧ H3 b = some (.tup (k.map kV)) ∧ kvs.length < sizeLine ∧
  (∀ v, valV kvs k = some v → Q v H3) ∧ (valV kvs k = none → Q z (upd H3 a (.dT (putK kvs k z))))
section
variable {X : Cx} {o e f : Expr} {td ty tx : TE} {apos cpos : Pos}
theorem pe_dsetdT (hu : X.A.units + 1 < cLine) (ho : PE X o td) (he : PE X e ty) (hf : PE X f tx) (m : M2 X o "setdefault" apos e f cpos) : PE X (.Call (.Attribute o "setdefault" apos) [e, f] [] cpos) (tDSetdT td ty tx) := by
  refine ⟨fun pins s σ H Q I h => ?_⟩
  refine wpAny_Call_method m.base m.few m.line PySem.F.plainAttrs_dict PySem.F.slot_dict_setdefault PySem.F.type_dict_setdefault (thn (ho.run pins s σ H _ I h) fun u s1 ⟨x, H1, I1, rx, a, ex, d, q1⟩ => ?_)
  subst ex
  obtain rfl : u = Value.ref a := rx
  obtain ⟨t1, t2, _⟩ := isD_at I1 d
  refine ⟨t1, t2, ?_⟩
  rw [m.trees]
  refine Calls.callWith_builtin rfl (Calls.evalArgs_plain (Calls.spliced_cons (thn (he.run pins s1 σ H1 _ I1 q1) fun iv s2 ⟨y, H2, I2, ry, q2⟩ =>
    Calls.spliced_cons (thn (hf.run pins s2 σ H2 _ I2 q2) fun fv s3 ⟨z, H3, I3, rz, kvs, k, b, ea, ey, eb, hl, q3, q4⟩ => Calls.spliced_nil ?_))))
  subst ey
  obtain rfl : iv = Value.ref b := ry
  obtain ⟨hz, hd, xs, rel, dd⟩ := dt_of I3.hok ea
  have hzx : xs.length ≤ sizeLine := by rw [← PySem.Paired.length rel]; exact hz
  refine call_setdefault_heap (hsz := hzx) (tupleKind_room_in1 hu) (key_of I3.hok eb) hd dd (fun p hp => ?_) fun hn h' dd' hs => ?_
  · have q := rel.val k
    rw [hp] at q
    cases q0 : valV kvs k with
    | none =>
      rw [q0] at q
      exact (show False from q).elim
    | some v0 =>
      rw [q0] at q
      exact ⟨v0, H3, I3.tok _, q, q3 v0 q0⟩
  · have q := rel.val k
    rw [hn] at q
    cases q0 : valV kvs k with
    | some v0 =>
      rw [q0] at q
      exact (show False from q).elim
    | none =>
      have hl2 : (putK kvs k z).length ≤ sizeLine := by have := length_putK kvs k z; omega
      obtain ⟨w0, es, ep, hq, h2, h3, h4, _, h5⟩ := dd'
      refine ⟨z, upd H3 a (.dT (putK kvs k z)), d_write (ob := .dT (putK kvs k z)) (t' := s3.toks + (tupleKind (mixKind X.prog X.w)).draws k) I3 (by rw [ea]; exact True.intro) hs ⟨w0, hq⟩ ⟨hl2, hd, _, (rel.put k eb rz).keeps fun c ys ec => ?_, w0, es, ep, hq, h2, h3, h4, h5⟩, rz, q4 q0⟩
      rw [upd_ne (ne_of ec ea (fun z => nomatch z))]
      exact ec
end
/-! ### d.values(), list of it -/
theorem kv_vals {κ : Type} [DecidableEq κ] {kvs : List (κ × V)} {vs : List (κ × Value)} (h : KV kvs vs) : Vals (kvs.map (·.2)) (vs.map (·.2)) := by
  unfold KV at h
  induction h with
  | nil => exact .nil
  | cons h1 t ih => exact .cons h1.2 ih
def ViewO (r d : Addr) : HO := .ext fun h => h.IsValuesView r d
def tVals (td : TE) : TE := fun σ H Q => td σ H fun x H1 => ∃ a kvs, x = .ref a ∧ H1 a = some (.dK kvs) ∧ ∀ q, H1 q = none → Q (.ref q) (upd H1 q (ViewO q a))
section
variable {X : Cx} {o : Expr} {td : TE} {apos cpos : Pos}
theorem pe_dvalues (ho : PE X o td) (hbase : attributeBase o "values" X.env (eval o X.env) = eval o X.env := by rfl) (hline : (apos.endLine == cpos.line) = true := by rfl) : PE X (.Call (.Attribute o "values" apos) [] [] cpos) (tVals td) := by
  refine ⟨fun pins s σ H Q I h => ?_⟩
  refine wpAny_Call_method0_late hbase hline (thn (ho.run pins s σ H _ I h) fun v s1 ⟨x, H1, I1, r1, a, kvs, ex, ha, q1⟩ => ?_)
  subst ex
  obtain rfl : v = Value.ref a := r1
  obtain ⟨t1, t2, hd⟩ := isD_at I1 (.inl ⟨kvs, .inl ha⟩)
  obtain ⟨z, _, vs, rel, dd⟩ := dk_of I1.hok ha
  refine ⟨"dict", "dict.values", PySem.F.plainAttrs_dict, PySem.F.slot_dict_values, PySem.F.type_dict_values, t1, t2, Calls.callWith_builtin rfl (PySem.evalArgs_none ?_)⟩
  refine call_meetsIn PySem.F.slot_dict_values dd.typeIs PySem.F.entry_dict_values (PySem.F.args_dict_values_1 _) (meets_dict_values (mixKind X.prog X.w) a hd) ⟨⟨vs, dd⟩, ?_⟩
  refine ⟨.ref s1.heap.objs.size, upd H1 s1.heap.objs.size (ViewO s1.heap.objs.size a), I1.laid (t' := s1.toks) (fun b u e => Heap.get?_push_of_some _ e) (Nat.le_refl _) ?_, rfl, q1 _ (I1.hok.fresh (Nat.le_refl _))⟩
  exact ⟨⟨_, Heap.get?_push_size _ rfl, rfl, rfl⟩, ⟨_, Heap.get?_push_size _ rfl⟩, fun h1 h2 ⟨u, hu, r⟩ k => ⟨u, k u hu, r⟩⟩
def rListVals : List V → Hp → VK → Prop := fun xs H Q => ∃ r a kvs, xs = [V.ref r] ∧ H r = some (ViewO r a) ∧ H a = some (.dK kvs) ∧ ∀ p, H p = none → Q (.ref p) (upd H p (.lst (kvs.map (·.2))))
theorem call_list_vals (hc : X.calm = true) : CallR X (.type "list") rListVals := by
  intro pins s σ H xs us Q I r h
  obtain ⟨v, a, kvs, rfl, hv, ha, q⟩ := h
  rw [Vals.ref1 r]
  have hview : s.heap.IsValuesView v a := (I.hok v _ hv).1
  obtain ⟨z, lo, vs, rk, hd⟩ := dk_of I.hok ha
  obtain ⟨ep, hat⟩ := hd.dictAt
  have hl : kvs.length = vs.length := PySem.Paired.length rk
  refine PySem.W.kdl_call (PySem.W.kdl_values (knd := mixKind X.prog X.w) (kvs := vs) (ep := ep)) (I.ok.hd hc) ⟨hview, hat⟩ (by rw [← hl]; exact z) fun h' tk acc' c' hkeep hS hacc => ?_
  have el : acc'.toList.length = acc'.size := by simp
  refine ⟨.ref s.heap.objs.size, upd H s.heap.objs.size (.lst (kvs.map (·.2))), I.laid hkeep (Nat.le_refl _) (show ObjOk X.prog X.w _ _ _ (.lst (kvs.map (·.2))) from ⟨by rw [List.length_map]; exact z, acc'.toList, c', ?_, by rw [Array.toArray_toList]; exact hS⟩), rfl, q _ (I.hok.fresh (Nat.le_refl _))⟩
  have ev := PySem.W.kdl_vals_eq (kvs := vs) acc'.toList (by rw [el]; exact hacc.1) fun j u hu => hacc.2 j u (by rw [← Array.getElem?_toList]; exact hu)
  rw [ev]
  exact kv_vals rk
end
/-! ### dicts whose keys are tuples of tuples of ints -/
/-- a tuple of tuples of ints, tracked -/
def TT (H : Hp) (a : Addr) (rows : List (List Int)) : Prop := ∃ as : List Addr, H a = some (.tup (as.map V.ref)) ∧ Paired (fun b (r : List Int) => H b = some (.tup (r.map V.int))) as rows
theorem TT.mono {H H' : Hp} {a : Addr} {rows : List (List Int)} (h : TT H a rows) (e : Same H H') : TT H' a rows :=
  let ⟨as, h1, h2⟩ := h; ⟨as, e _ _ h1, Paired.mono h2 fun _ _ q => e _ _ q⟩
def nkR (r : List Int) : NestedKey := .tup (r.map .num)
def nk (rows : List (List Int)) : NestedKey := .tup (rows.map nkR)
theorem nkR_inj : ∀ {r r' : List Int}, nkR r = nkR r' → r = r' := by
  intro r r' h
  have h' : r.map NestedKey.num = r'.map NestedKey.num := by unfold nkR at h; injection h
  clear h
  induction r generalizing r' with
  | nil => cases r' with
    | nil => rfl
    | cons _ _ => simp at h'
  | cons x r ih => cases r' with
    | nil => simp at h'
    | cons y r' =>
      rw [List.map_cons, List.map_cons] at h'
      injection h' with h1 h2
      injection h1 with h1
      rw [h1, ih h2]
theorem nk_inj : ∀ {r r' : List (List Int)}, nk r = nk r' → r = r' := by
  intro r r' h
  have h' : r.map nkR = r'.map nkR := by unfold nk at h; injection h
  clear h
  induction r generalizing r' with
  | nil => cases r' with
    | nil => rfl
    | cons _ _ => simp at h'
  | cons x r ih => cases r' with
    | nil => simp at h'
    | cons y r' =>
      rw [List.map_cons, List.map_cons] at h'
      injection h' with h1 h2
      rw [nkR_inj h1, ih h2]
theorem depthAll_num : ∀ r : List Int, NestedKey.depthAll (r.map .num) = 0
  | [] => rfl
  | _ :: r => by
    rw [List.map_cons]
    show max _ _ = 0
    rw [depthAll_num r]
    rfl
theorem depth_nkR (r : List Int) : (nkR r).depth ≤ 1 := by
  show NestedKey.depthAll (r.map .num) + 1 ≤ 1
  rw [depthAll_num r]
  exact Nat.le_refl _
theorem depthAll_nkR : ∀ r : List (List Int), NestedKey.depthAll (r.map nkR) ≤ 1
  | [] => by decide
  | x :: r => by
    rw [List.map_cons]
    show max _ _ ≤ 1
    exact Nat.max_le.mpr ⟨depth_nkR x, depthAll_nkR r⟩
theorem depth_nk (r : List (List Int)) : (nk r).depth ≤ 2 := by
  show NestedKey.depthAll (r.map nkR) + 1 ≤ 2
  have := depthAll_nkR r
  omega
section
variable {P : Program} {w : World} {H : Hp} {h : Heap} {a : Addr}
theorem all_num : ∀ {r : List Int} {us : List Value}, Vals (r.map V.int) us → NestedAll h (r.map .num) us
  | [], _, q => by cases q; exact .nil
  | i :: r, _, q => by
    rw [List.map_cons] at q
    cases q with
    | cons h1 t =>
      obtain ⟨t', rfl⟩ := h1
      exact .cons (.int i t') (all_num t)
theorem is_nkR {r : List Int} (ok : HOk P w H h) (e : H a = some (.tup (r.map V.int))) : NestedIs h (nkR r) (.ref a) := by
  obtain ⟨_, its, rv, o, h1, h2, n, h3⟩ := (show ObjOk P w H h a (.tup (r.map V.int)) from ok a _ e)
  exact .tup h1 h2 h3 (by simpa using all_num rv)
theorem all_nkR (ok : HOk P w H h) : ∀ {as : List Addr} {rows : List (List Int)} {us : List Value}, Vals (as.map V.ref) us → Paired (fun b (r : List Int) => H b = some (.tup (r.map V.int))) as rows → NestedAll h (rows.map nkR) us
  | _, _, _, q, .nil => by cases q; exact .nil
  | _, _, _, q, .cons h1 t => by
    rw [List.map_cons] at q
    cases q with
    | cons h2 t' =>
      cases h2
      exact .cons (is_nkR ok h1) (all_nkR ok t' t)
theorem is_nk {rows : List (List Int)} (ok : HOk P w H h) (e : TT H a rows) : (nestedKind P w).is h (nk rows) a := by
  obtain ⟨as, e1, e2⟩ := e
  obtain ⟨_, its, rv, o, h1, h2, n, h3⟩ := (show ObjOk P w H h a (.tup (as.map V.ref)) from ok a _ e1)
  exact ⟨.tup h1 h2 h3 (by simpa using all_nkR ok rv e2), Nat.le_trans (depth_nk rows) (by decide)⟩
end
abbrev NE : Type := List (List Int) × Addr × V
abbrev NRel : NE → NestedKey × Addr × Value → Prop := fun p q => nk p.1 = q.1 ∧ p.2.1 = q.2.1 ∧ RelV p.2.2 q.2.2
def DNf (P : Program) (w : World) (a : Addr) (xs : List NE) : Heap → Prop := fun h => xs.length ≤ sizeLine ∧ (a == sysModules) = false ∧ ∃ ys : List (NestedKey × Addr × Value), Paired NRel xs ys ∧
  ∃ o es ep, h.get? a = some o ∧ o.ExactDict ∧ o.data = .dict es ep ∧ es.toList = ys.map (entryOfKey (nestedKind P w)) ∧ (ys.map (·.1)).Nodup
/-- the dict at a: its keys, where they stand, its values -/
def DN (P : Program) (w : World) (a : Addr) (xs : List NE) : HO := .ext (DNf P w a xs)
/-- the keys stand -/
def Ks (H : Hp) (xs : List NE) : Prop := ∀ x ∈ xs, TT H x.2.1 x.1
theorem Ks.mono {H H' : Hp} {xs : List NE} (h : Ks H xs) (e : Same H H') : Ks H' xs := fun x hx => (h x hx).mono e
def nGet (xs : List NE) (k : List (List Int)) : Option V := (xs.find? fun x => decide (x.1 = k)).map (·.2.2)
section
variable {P : Program} {w : World} {H H' : Hp} {h : Heap} {a : Addr} {xs : List NE}
theorem dnf_at {h1 h2 : Heap} (x : DNf P w a xs h1) (k : ∀ o, h1.get? a = some o → h2.get? a = some o) : DNf P w a xs h2 := by
  obtain ⟨z, d, ys, r, o, es, ep, ho, q⟩ := x
  exact ⟨z, d, ys, r, o, es, ep, k o ho, q⟩
theorem dn_new (x : DNf P w a xs h) : ObjOk P w H h a (DN P w a xs) := by
  have ⟨_, _, _, _, o, _, _, ho, _⟩ := x
  exact ⟨x, ⟨o, ho⟩, fun h1 h2 p k => dnf_at p k⟩
theorem dn_of (ok : HOk P w H h) (e : H a = some (DN P w a xs)) (ks : Ks H xs) : xs.length ≤ sizeLine ∧ (a == sysModules) = false ∧ ∃ ys, Paired NRel xs ys ∧ h.DictOfH (nestedKind P w) a ys := by
  obtain ⟨z, d, ys, r, o, es, ep, ho, h1, h2, h3, h4⟩ : DNf P w a xs h := (ok a _ e).1
  refine ⟨z, d, ys, r, o, es, ep, ho, h1, h2, h3, fun y hy => ?_, h4⟩
  clear h3 h4 z e
  induction r with
  | nil => cases hy
  | cons q t ih =>
    rcases List.mem_cons.mp hy with e' | hy
    · subst e'
      rw [← q.1, ← q.2.1]
      exact is_nk ok (ks _ List.mem_cons_self)
    · exact ih (fun x hx => ks x (List.mem_cons_of_mem _ hx)) hy
theorem nrel_get {xs : List NE} {ys : List (NestedKey × Addr × Value)} (r : Paired NRel xs ys) (k : List (List Int)) : RelO (nGet xs k) ((atKey ys (nk k)).map (·.2)) := by
  induction r with
  | nil => exact True.intro
  | @cons p q ps qs h t ih =>
    by_cases e : p.1 = k
    · have e' : q.1 = nk k := by rw [← h.1, e]
      have b : atKey (q :: qs) (nk k) = some q.2 := by simp [atKey, List.find?_cons, e']
      have c : nGet (p :: ps) k = some p.2.2 := by simp [nGet, List.find?_cons, e]
      rw [b, c]; exact h.2.2
    · have e' : ¬ q.1 = nk k := fun z => e (nk_inj (by rw [h.1, z]))
      have b : atKey (q :: qs) (nk k) = atKey qs (nk k) := by simp [atKey, List.find?_cons, e']
      have c : nGet (p :: ps) k = nGet ps k := by simp [nGet, List.find?_cons, e]
      rw [b, c]; exact ih
theorem nrel_put {xs : List NE} {ys : List (NestedKey × Addr × Value)} (r : Paired NRel xs ys) {k : List (List Int)} {b : Addr} {y : V} {u : Value} (hn : nGet xs k = none) (ry : RelV y u) : Paired NRel (xs ++ [(k, b, y)]) (storedH ys (nk k) b u) := by
  have q := nrel_get r k
  rw [hn] at q
  have e : ¬ (atKey ys (nk k)).isSome = true := by
    cases q0 : atKey ys (nk k) with
    | none => exact fun z => nomatch z
    | some v0 => rw [q0] at q; exact (show False from q).elim
  unfold storedH
  rw [if_neg e]
  exact Paired.snoc r ⟨rfl, rfl, ry⟩
end
section
variable {X : Cx} {o i e value : Expr} {pos pos' : Pos} {td ty tv : TE}
theorem dn_type {pins : List (Addr × Obj)} {σ : L2.St} {H : Hp} {s : Shared} {a : Addr} {xs : List NE} (I : Inv X pins σ H s) (g : H a = some (DN X.prog X.w a xs)) : s.TypeIs (.ref a) "dict" := by
  obtain ⟨_, _, _, _, ob, _, _, ho, hx, _⟩ : DNf X.prog X.w a xs s.heap := (I.hok a _ g).1
  exact ⟨ob, ho, hx.1⟩
/-- d[k], there -/
def tNGet (P : Program) (w : World) (td ty : TE) : TE := fun σ H Q => td σ H fun x H1 => ty σ H1 fun y H2 => ∃ a b xs k v, x = .ref a ∧ y = .ref b ∧ H2 a = some (DN P w a xs) ∧ Ks H2 xs ∧ TT H2 b k ∧ nGet xs k = some v ∧ Q v H2
theorem pe_nget (hu : X.A.units + 12 < cLine) (ho : PE X o td) (hi : PE X i ty) (hs : NoSl i) : PE X (.Subscript o i pos) (tNGet X.prog X.w td ty) := by
  refine ⟨fun pins s σ H Q I h => ?_⟩
  refine subD_of PySem.F.slot_dict_getitem.lookup hs (thn (ho.run pins s σ H _ I h) fun u s1 ⟨x, H1, I1, rx, q1⟩ => thn (hi.run pins s1 σ H1 _ I1 q1) fun iv s2 ⟨y, H2, I2, ry, a, b, xs, k, v, ex, ey, ga, gk, gb, gv, q2⟩ => ?_)
  subst ex ey
  obtain rfl : u = Value.ref a := rx
  obtain rfl : iv = Value.ref b := ry
  refine ⟨dn_type I2 ga, ?_⟩
  obtain ⟨z, hd, ys, rel, dd⟩ := dn_of I2.hok ga gk
  obtain ⟨w', hw, rw'⟩ := RelO.some_of (v := v) (o := (atKey ys (nk k)).map (·.2)) (by rw [← gv]; exact nrel_get rel k)
  obtain ⟨p, hp, hp2⟩ := Option.map_eq_some_iff.mp hw
  refine wpAny_getItem_heap (knd := nestedKind X.prog X.w) (show X.A.in1.units + 8 < cLine from ?_) (is_nk I2.hok gb) dd hp ?_
  · show X.A.units + 1 + 8 < cLine
    omega
  · rw [hp2]
    exact ⟨v, H2, I2.tok _, rw', q2⟩
/-- k not in d -/
def tNNotIn (P : Program) (w : World) (ty td : TE) : TE := fun σ H Q => ty σ H fun y H1 => td σ H1 fun x H2 => ∃ a b xs k, x = .ref a ∧ y = .ref b ∧ H2 a = some (DN P w a xs) ∧ Ks H2 xs ∧ TT H2 b k ∧ Q (.bl (!(nGet xs k).isSome)) H2
theorem pc_nnotin (hu : X.A.units + 12 < cLine) (hi : PE X i ty) (ho : PE X o td) : PC X .NotIn i o (tNNotIn X.prog X.w ty td) := by
  refine ⟨fun pins s σ H Q I h => ?_⟩
  refine thn (hi.run pins s σ H _ I h) fun iv s1 ⟨y, H1, I1, ry, q1⟩ => thn (ho.run pins s1 σ H1 _ I1 q1) fun u s2 ⟨x, H2, I2, rx, a, b, xs, k, ex, ey, ga, gk, gb, q2⟩ => ?_
  subst ex ey
  obtain rfl : u = Value.ref a := rx
  obtain rfl : iv = Value.ref b := ry
  obtain ⟨z, hd, ys, rel, dd⟩ := dn_of I2.hok ga gk
  refine wpAny_notIn_heap (knd := nestedKind X.prog X.w) (show X.A.in1.units + 8 < cLine from ?_) (is_nk I2.hok gb) hd dd ?_
  · show X.A.units + 1 + 8 < cLine
    omega
  · have q := (nrel_get rel k).isSome_eq
    rw [Option.isSome_map] at q
    rw [← q]
    exact ⟨.bl (!(nGet xs k).isSome), H2, I2.tok _, rfl, q2⟩
/-- d[k] = v, k new -/
def sNPut (P : Program) (w : World) (td ty tv : TE) : TS := fun D σ H => tv σ H fun v H1 => td σ H1 fun x H2 => ty σ H2 fun y H3 => ∃ a b xs k, x = .ref a ∧ y = .ref b ∧ H3 a = some (DN P w a xs) ∧ Ks H3 xs ∧ TT H3 b k ∧ nGet xs k = none ∧ xs.length < sizeLine ∧ D.nx σ (upd H3 a (DN P w a (xs ++ [(k, b, v)])))
theorem dn_put {pins : List (Addr × Obj)} {σ : L2.St} {H : Hp} {s : Shared} {a b : Addr} {xs : List NE} {k : List (List Int)} {v : V} {r : Value} {A : Around} {E : Value → Shared → Prop} {Q : Unit → Shared → Prop} (hu : A.units + 12 < cLine) (I : Inv X pins σ H s) (ga : H a = some (DN X.prog X.w a xs)) (gk : Ks H xs) (gb : TT H b k) (hn : nGet xs k = none) (hl : xs.length < sizeLine) (rv : RelV v r)
    (h : ∀ s', Inv X pins σ (upd H a (DN X.prog X.w a (xs ++ [(k, b, v)]))) s' → Q () s') : wpAny (model X.prog X.w) A (setItem (.ref a) (.ref b) r) Q E s := by
  obtain ⟨z, hd, ys, rel, dd⟩ := dn_of I.hok ga gk
  have hz : ys.length ≤ sizeLine := by rw [← PySem.Paired.length rel]; exact z
  refine wpAny_setItem_heap (knd := nestedKind X.prog X.w) (hsz := hz) (show A.in1.units + 8 < cLine from ?_) (is_nk I.hok gb) dd fun h' dd' hs => h _ ?_
  · show A.units + 1 + 8 < cLine
    omega
  · obtain ⟨q, es, ep, hq, h2, h3, h4, _, h5⟩ := dd'
    exact d_write I (by rw [ga]; exact True.intro) hs ⟨q, hq⟩ (dn_new ⟨by rw [List.length_append, List.length_singleton]; omega, hd, _, nrel_put rel hn rv, q, es, ep, hq, h2, h3, h4, h5⟩)
theorem ps_nput (hu : X.A.units + 12 < cLine) (ho : PE X o td) (hi : PE X i ty) (hv : PE X value tv) (hs : swapsWith value (some (.Subscript o i pos')) pos.line X.env = pure false) :
    PS X (.Assign [.Subscript o i pos'] value pos) (sNPut X.prog X.w td ty tv) := by
  refine ⟨fun pins s σ H D I h => ?_⟩
  refine wpAny_Assign_Subscript (thn (hv.run pins s σ H _ I h) fun r s1 ⟨v, H1, I1, rv, q1⟩ => thn (ho.run pins s1 σ H1 _ I1 q1) fun u s2 ⟨x, H2, I2, rx, q2⟩ => thn (hi.run pins s2 σ H2 _ I2 q2) fun iv s3 ⟨y, H3, I3, ry, a, b, xs, k, ex, ey, ga, gk, gb, hn, hl, q3⟩ => ?_) hs
  subst ex ey
  obtain rfl : u = Value.ref a := rx
  obtain rfl : iv = Value.ref b := ry
  exact dn_put hu I3 ga gk gb hn hl rv fun s4 I4 => ⟨σ, _, I4, q3⟩
/-- {k: v} -/
def tNDisp (P : Program) (w : World) (tk tv : TE) : TE := fun σ H Q => ∀ p, H p = none → tk σ (upd H p (DN P w p [])) fun y H1 => tv σ H1 fun v H2 => ∃ b k, y = .ref b ∧ H2 p = some (DN P w p []) ∧ TT H2 b k ∧ Q (.ref p) (upd H2 p (DN P w p [(k, b, v)]))
theorem dn_empty {P : Program} {w : World} {H : Hp} (h : Heap) (hb : sysModules < h.objs.size) : ObjOk P w H (h.push { cls := .type "dict", data := .dict #[] }) h.objs.size (DN P w h.objs.size []) :=
  dn_new ⟨Nat.zero_le _, beq_eq_false_iff_ne.mpr (Ne.symm (Nat.ne_of_lt hb)), [], .nil, _, #[], 0, Heap.get?_push_size _ rfl, ⟨rfl, rfl, rfl⟩, rfl, rfl, List.nodup_nil⟩
theorem pe_ndisp {k v : Expr} {tk tv : TE} {pos : Pos} (hu : X.A.units + 12 < cLine) (hk : PE X k tk) (hv : PE X v tv) : PE X (.Dict [some k] [v] pos) (tNDisp X.prog X.w tk tv) := by
  refine ⟨fun pins s σ H Q I q => ?_⟩
  have hn := I.hok.fresh (Nat.le_refl s.heap.objs.size)
  have I1 := I.laid (a := s.heap.objs.size) (o := DN X.prog X.w s.heap.objs.size []) (h' := s.heap.push { cls := .type "dict", data := .dict #[] }) (t' := s.toks) (fun _ _ q => Heap.get?_push_of_some _ q) (Nat.le_refl _) (dn_empty s.heap I.big)
  rw [arm_eval_Dict, zip_pairTrees [some k] [v] X.env pos rfl rfl, dictDisplay_pairs (pairTrees [some k] [v] X.env pos) (fun z => by have := pairTrees_length [some k] [v] X.env pos rfl rfl; rw [z] at this; cases this) (by rw [pairTrees_length [some k] [v] X.env pos rfl rfl, List.length_singleton]; decide)]
  refine wpAny_bind (wpAny_standAt (wpAny_bind (wpAny_subDictH (knd := nestedKind X.prog X.w) (Q := fun d s' => wpAny (model X.prog X.w) X.A (pure (Value.ref d)) (EP X pins σ Q) X.xe s') (show X.A.units + 8 < cLine by omega) (by rw [pairTrees_length [some k] [v] X.env pos rfl rfl, List.length_singleton]; decide) ?_)))
  refine pairTrees_cons_walk (thn (hk.run pins _ σ _ _ I1 (q _ hn)) fun u s1 ⟨x, H1, I2, rx, q1⟩ => thn (hv.run pins s1 σ H1 _ I2 q1) fun w2 s2 ⟨y, H2, I3, ry, b, r, ex, gp, gb, q2⟩ => pairTrees_nil_walk ?_)
  subst ex
  obtain rfl : u = Value.ref b := rx
  obtain ⟨z, hd, ys, rel, dd⟩ := dn_of I3.hok gp (fun x hx => nomatch hx)
  cases rel
  refine ⟨[(nk r, b, w2)], ⟨rfl, rfl, is_nk I3.hok gb, trivial⟩, dd, fun h' tk dd' hs => wpAny_pure ?_⟩
  obtain ⟨q', es, ep, hq, h2, h3, h4, _, h5⟩ := dd'
  exact ⟨.ref s.heap.objs.size, _, d_write (t' := tk) I3 (by rw [gp]; exact True.intro) hs ⟨q', hq⟩ (dn_new ⟨by show 1 ≤ sizeLine; decide, hd, [(nk r, b, w2)], .cons ⟨rfl, rfl, ry⟩ .nil, q', es, ep, hq, h2, h3, h4, h5⟩), rfl, q2⟩
end
end K81
end
section
set_option Elab.async false
set_option maxRecDepth 100000
set_option maxHeartbeats 4000000
set_option linter.all false
set_option pp.maxSteps 1500
set_option pp.deepTerms false
/-! parted -/
namespace K81
open PySem PySem.Spec PyProof.Rows L2 K81M
def kI (n : Nat) : Key := .inl (n : Int)
/-- a dict of states: each to its number -/
def gd (g : Nat → Nat) (l : List Nat) : List (Key × V) := l.map fun q => (kI q, V.int (g q : Nat))
theorem kI_inj {a b : Nat} (h : kI a = kI b) : a = b := by
  have h' : (Sum.inl (a : Int) : Key) = Sum.inl (b : Int) := h
  injection h' with h'
  omega
theorem valV_gd {g : Nat → Nat} : ∀ {l : List Nat} {q : Nat}, q ∈ l → valV (gd g l) (kI q) = some (.int (g q : Nat))
  | a :: l, q, h => by
    show valV ((kI a, V.int (g a : Nat)) :: gd g l) (kI q) = _
    by_cases e : a = q
    · subst e
      exact valV_pos rfl
    · rw [valV_neg fun z => e (kI_inj z)]
      rcases List.mem_cons.mp h with z | z
      · exact absurd z.symm e
      · exact valV_gd z
theorem valV_gd_none {g : Nat → Nat} : ∀ {l : List Nat} {q : Nat}, ¬ q ∈ l → valV (gd g l) (kI q) = none
  | [], _, _ => rfl
  | a :: l, q, h => by
    show valV ((kI a, V.int (g a : Nat)) :: gd g l) (kI q) = _
    rw [valV_neg fun z => h (by rw [← kI_inj z]; exact List.mem_cons_self)]
    exact valV_gd_none fun z => h (List.mem_cons_of_mem _ z)
theorem gd_snoc {g : Nat → Nat} {l : List Nat} {q : Nat} (h : ¬ q ∈ l) : putK (gd g l) (kI q) (V.int (g q : Nat)) = gd g (l ++ [q]) := by
  rw [putK_new _ (valV_gd_none h)]
  simp [gd]
theorem gd_len {g : Nat → Nat} {l : List Nat} : (gd g l).length = l.length := List.length_map _
theorem gd_vals {g : Nat → Nat} {l : List Nat} : (gd g l).map (·.2) = (l.map fun q => (g q : Int)).map V.int := by simp [gd]
/-- the dict of keys met so far -/
def kdF (i : Nat) : List (List Nat) → List (List Key × V)
  | [] => []
  | k :: r => (k.map kI, V.int (i : Nat)) :: kdF (i + 1) r
theorem kmap_inj : ∀ {a b : List Nat}, a.map kI = b.map kI → a = b
  | [], [], _ => rfl
  | [], _ :: _, h => by simp at h
  | _ :: _, [], h => by simp at h
  | x :: a, y :: b, h => by
    rw [List.map_cons, List.map_cons] at h
    injection h with h1 h2
    rw [kI_inj h1, kmap_inj h2]
theorem kdF_len : ∀ (D : List (List Nat)) (i : Nat), (kdF i D).length = D.length
  | [], _ => rfl
  | _ :: r, i => by
    show (kdF (i + 1) r).length + 1 = r.length + 1
    rw [kdF_len r]
theorem kdF_none : ∀ {D : List (List Nat)} {k : List Nat} {i : Nat}, ¬ k ∈ D → valV (kdF i D) (k.map kI) = none
  | [], _, _, _ => rfl
  | a :: D, k, i, h => by
    show valV ((a.map kI, V.int (i : Nat)) :: kdF (i + 1) D) (k.map kI) = _
    rw [valV_neg fun z => h (by rw [← kmap_inj z]; exact List.mem_cons_self)]
    exact kdF_none fun z => h (List.mem_cons_of_mem _ z)
theorem kdF_some : ∀ {D : List (List Nat)} {k : List Nat} {i : Nat}, k ∈ D → valV (kdF i D) (k.map kI) = some (.int ((i + ixOf D k : Nat) : Int))
  | a :: D, k, i, h => by
    show valV ((a.map kI, V.int (i : Nat)) :: kdF (i + 1) D) (k.map kI) = _
    by_cases e : a = k
    · subst e
      rw [valV_pos rfl]
      rw [ixOf_self, Nat.add_zero]
    · rw [valV_neg fun z => e (kmap_inj z)]
      rcases List.mem_cons.mp h with z | z
      · exact absurd z.symm e
      · rw [kdF_some z]
        rw [ixOf_ne e, show i + 1 + ixOf D k = i + (ixOf D k + 1) by omega]
theorem kdF_snoc : ∀ {D : List (List Nat)} {k : List Nat} {i : Nat}, kdF i (D ++ [k]) = kdF i D ++ [(k.map kI, V.int ((i + D.length : Nat) : Int))]
  | [], _, _ => rfl
  | a :: D, k, i => by
    show (a.map kI, V.int (i : Nat)) :: kdF (i + 1) (D ++ [k]) = ((a.map kI, V.int (i : Nat)) :: kdF (i + 1) D) ++ [_]
    rw [kdF_snoc, List.cons_append, List.length_cons, show i + 1 + D.length = i + (D.length + 1) by omega]
theorem kdF_put {D : List (List Nat)} {k : List Nat} (h : ¬ k ∈ D) : putK (kdF 0 D) (k.map kI) (V.int (D.length : Nat)) = kdF 0 (D ++ [k]) := by
  rw [putK_new _ (kdF_none h), kdF_snoc, Nat.zero_add]
theorem notin_take {l : List Nat} (nd : l.Nodup) {i q : Nat} (h : l[i]? = some q) : ¬ q ∈ l.take i := by
  intro hm
  obtain ⟨j, hj⟩ := List.mem_iff_getElem?.mp hm
  rw [List.getElem?_take] at hj
  split at hj
  · rename_i hlt
    have hi := (List.getElem?_eq_some_iff.mp h).1
    have := (List.getElem?_inj hi nd).mp (h.trans hj.symm)
    omega
  · cases hj
theorem Same.none {H H' : Hp} {p : Addr} (e : Same H H') (h : H' p = Option.none) : H p = Option.none := by
  cases q : H p with
  | none => rfl
  | some o => rw [e _ _ q] at h; cases h
theorem dget_gd {H : Hp} {a : Addr} {g : Nat → Nat} {l : List Nat} {q : Nat} (h : H a = some (.dK (gd g l))) (hq : q ∈ l) : DGet H a (V.int (q : Int)) (some (V.int (g q : Nat))) := by
  have := DGet.k (k := kI q) h
  rwa [valV_gd hq] at this
theorem cnt_int {g : Nat → Nat} {states : List Nat} {ks : List Int} (nd : ks.Nodup) (h : ∀ k, k ∈ ks ↔ k ∈ states.map fun q => (g q : Int)) : ks.length = cnt g states := by
  have e1 : ks.length = cnt (fun q => (g q : Int)) states := by
    refine Nat.le_antisymm (nodup_le nd fun x hx => mem_addAll0.mpr ((h x).mp hx)) (nodup_le (nodup0 _) fun x hx => (h x).mpr (mem_addAll0.mp hx))
  rw [e1]
  exact Nat.le_antisymm (cnt_le (fun (n : Nat) => (n : Int)) fun q _ => rfl) (cnt_le Int.toNat fun q _ => rfl)
theorem cat_key {K : PySem.W.Frag} {H : Hp} {t1 t2 : Addr} {xs ys : List V} {Q : VK} (h1 : H t1 = some (.tup xs)) (h2 : H t2 = some (.tup ys)) (hx : xs ≠ []) (hl : xs.length + ys.length ≤ sizeLine)
    (q : ∀ H' kt, Same H H' → H' kt = some (.tup (xs ++ ys)) → Q (.ref kt) H') : rCatT K (.ref t1) (.ref t2) H Q :=
  ⟨t1, t2, xs, ys, rfl, rfl, SqT.of h1, SqT.of h2, hx, hl, fun e => q H t1 (Same.refl _) (by rw [e, List.append_nil]; exact h1), fun _ p hp => q _ p (same_new hp) upd_same⟩
section
variable {P : Program} {w : World} {K : PySem.W.Frag} {mg : Str → Option Value} {base : Heap}
/-- the dict of ends at ke -/
def KeptD (H : Hp) (ke : Addr) (n : Nat) (en : List Nat) : Prop := ∃ kvs, H ke = some (.dK kvs) ∧ ∀ q, q < n → (valV kvs (kI q)).isSome = decide (q ∈ en)
def spParted (K : PySem.W.Frag) : Sp := fun vs H Q _ => ∃ (a ke ls : Addr) (m : Nat) (st : List (List Nat)) (en states : List Nat), vs = [.ref a, .ref ke, .ref ls] ∧ Rows K H a (toR st) ∧ Sts m st ∧ KeptD H ke st.length en ∧ H ls = some (.lst ((toI states).map V.int)) ∧ Bfs (nextR m st) [0] 0 states ∧
  ∀ (H' : Hp) (p : Addr) (g : Nat → Nat), Same H H' → H p = none → H' p = some (.dK (gd g states)) → Grouped m st en states g → Q (.ref p) H'
abbrev nmParted : List Str := ["steps", "ends", "states", "group", "many", "state", "now", "keys", "after", "key", "one"]
theorem scParted : FnScope nmParted ["steps", "ends", "states"] (defScope sParted) := ⟨rfl, rfl, rfl, by decide +kernel, rfl, by decide +kernel, by decide +kernel⟩
theorem c_parted (T : Txt K mg) : Cal P w K mg base 1 "parted" ["steps", "ends", "states"] (spParted K) := by
  refine cal sParted T 11 11 rfl rfl scParted (fun _ _ _ _ _ _ us hl => match us, hl with | [_, _, _], _ => rfl) (fun vs H Q E h => ?_) (fun cdv A outer s H vs Q E hr h => ?_)
  · obtain ⟨a, ke, ls, m, st, en, states, rfl, _⟩ := h
    rfl
  · obtain ⟨a, ke, ls, m, st, en, states, rfl, hR, hst, hK, hS, hB, k⟩ := h
    have hu := hu_of hr
    have hu64 := hr.units
    have nd := scParted.nd
    refine ⟨_, pss_cons (ps_asg (pe_tup (pa_cons pe_dnewK (pa_cons pe_int pa_nil))) (pg_tup rfl (pgs_cons (pg_name (i := 3) nd rfl (Or.inr rfl)) (pgs_cons (pg_name (i := 4) nd rfl (Or.inl rfl)) pgs_nil))))
      (pss_cons (ps_for PassesOwn.never rfl (pi_list (pv 2)) (pg_name (i := 5) nd rfl (Or.inl rfl))
        (pss_one (ps_dput hu (pv 3) (pv 5) (pe_callTy call_int1 (by rfl) (T.f 4 rfl) boot_int (pa_cons (pe_cmp (pc_din hu (pv 5) (pv 1)) rfl) pa_nil)) rfl)))
      (pss_cons (ps_set (i := 6) nd rfl (Or.inl rfl) (pe_callB call_len_seq (by rfl) (T.f 0 rfl) boot_len (pa_cons (pe_callB (cr_sortedG (ZI P w) rfl hu64) (by rfl) (T.f 1 rfl) boot_sorted (pa_cons (pe_callTy (cr_setL (ZI P w) rfl) (by rfl) (T.f 2 rfl) boot_set
          (pa_cons (pe_callTy (call_list_vals rfl) (by rfl) (T.f 3 rfl) boot_list (pa_cons (pe_dvalues (pv 3)) pa_nil)) pa_nil)) pa_nil)) pa_nil)))
      (pss_cons (ps_while PassesOwn.never (pt_cmpR op_ne (pv 6) (pv 4) (nomark _))
        (pss_cons (ps_par3 (i := 4) (j := 7) (l := 8) rfl nd rfl rfl rfl (by decide) (by decide) (by decide) rfl rfl rfl (pa_cons (pv 6) (pa_cons pe_dnewT (pa_cons pe_dnewK pa_nil))) (by rfl))
        (pss_cons (ps_for PassesOwn.never rfl (pi_list (pv 2)) (pg_name (i := 5) nd rfl (Or.inl rfl))
          (pss_cons (ps_set (i := 9) nd rfl (Or.inl rfl) (pe_op op_catT (pe_tup (pa_cons (pe_dget hu (pv 3) (pv 5) (fun _ _ => rfl)) pa_nil)) (pe_callTy call_tuple_of (by rfl) (T.f 8 rfl) boot_tuple
            (pa_cons (pe_lc (own := [("one", 10)]) (g := gName 10) (tt := tYes) rfl nd (pi_sq (pe_ix ix_sq (pv 0) (pv 5) (fun _ _ => rfl))) (blkOk_by (N := nmParted) (sc := defScope sParted) (by decide +kernel)) (fun _ _ _ _ _ => pg_name (i := 10) nd rfl (Or.inl rfl)) (fun _ _ _ _ _ => pts_nil)
              (fun _ _ _ _ _ => pe_dget hu (pv 3) (pv 10) (fun _ _ => rfl))) pa_nil))))
          (pss_one (ps_dput hu (pv 8) (pv 5) (pe_dsetdT hu (pv 7) (pv 9) (pe_callB call_len_dT (by rfl) (T.f 0 rfl) boot_len (pa_cons (pv 7) pa_nil)) ⟨rfl, rfl, rfl, rfl⟩) rfl))))
        (pss_one (ps_asg (pe_tup (pa_cons (pv 8) (pa_cons (pe_callB call_len_dT (by rfl) (T.f 0 rfl) boot_len (pa_cons (pv 7) pa_nil)) pa_nil))) (pg_tup rfl (pgs_cons (pg_name (i := 3) nd rfl (Or.inr rfl)) (pgs_cons (pg_name (i := 6) nd rfl (Or.inl rfl)) pgs_nil))))))))
      (pss_one (ps_ret (pv 3)))))), ?_⟩
    intro gp hgp
    refine ⟨by show 2 ≤ sizeLine; decide, fun tp htp => ⟨tp, _, rfl, SqT.of upd_same, rfl, ?_⟩⟩
    have e1 : Same H (upd (upd H gp (.dK [])) tp (.tup [V.ref gp, V.int 0])) := Same.up (same_new hgp) htp
    have e2 : (upd (upd H gp (.dK [])) tp (.tup [V.ref gp, V.int 0])) gp = some (.dK []) := by rw [upd_ne (ne_of_none upd_same htp)]; exact upd_same
    obtain ⟨kvs, hkv, hkq⟩ := hK
    have hv := hst.v
    have lt : ∀ q ∈ states, q < st.length := hB.all (C := fun q => q < st.length) (fun x hx y hy => by
      obtain ⟨l, hl, rfl⟩ := mem_nextR.mp hy
      exact hv.go hx hl) fun q hq => by rw [List.mem_singleton.mp hq]; exact hst.pos
    have ndS : states.Nodup := hB.nodup (List.nodup_cons.mpr ⟨by simp, List.nodup_nil⟩)
    have lenS : states.length ≤ st.length := by
      have := nodup_le ndS (U := List.range st.length) fun x hx => List.mem_range.mpr (lt x hx)
      rwa [List.length_range] at this
    have few := hst.few
    have h0 : (0 : Nat) ∈ states := hB.sub List.mem_cons_self
    have hcl : ∀ q ∈ states, ∀ p ∈ nextR m st q, p ∈ states := hB.closed0
    refine ⟨_, _, rfl, _, _, rfl, rfl, _, rfl, ls, rfl, ⟨_, SqL.of (e1 _ _ hS)⟩, ?_⟩
    refine for_list (xs := (toI states).map V.int) (fun i σ' H2 => ∃ v, σ' = [some (.ref a), some (.ref ke), some (.ref ls), some (.ref gp), some (.int 0), v, none, none, none, none, none] ∧ Same H H2 ∧ H2 gp = some (.dK (gd (g0 en) (states.take i))))
      ⟨none, rfl, e1, e2⟩ (fun i σ' H2 _ ⟨_, _, s2, _⟩ => SqL.of (s2 _ _ hS)) ?_ ?_
    · rintro i x σ' H2 hx ⟨v, rfl, s2, hg⟩
      obtain ⟨z, hz, rfl⟩ := map_int_get hx
      obtain ⟨q, hq, rfl⟩ := toI_get hz
      have hqs : q ∈ states := List.mem_of_getElem? hq
      refine ⟨_, rfl, _, rfl, ke, _, rfl, DGet.k (k := kI q) (s2 _ _ hkv), .inr ⟨_, rfl, _, rfl, _, rfl, gp, _, rfl, DPut.k (k := kI q) hg ?_, _, rfl, same_mut s2 hgp, ?_⟩⟩
      · rw [gd_len, List.length_take, sizeLine_eq]
        omega
      · rw [upd_same, hkq q (lt q hqs), List.take_add_one, hq]
        have e3 : V.int (if decide (q ∈ en) = true then 1 else 0) = V.int (g0 en q : Nat) := by
          unfold g0
          by_cases c : q ∈ en
          · simp [c]
          · simp [c]
        rw [e3, gd_snoc (notin_take ndS hq)] <;> rfl
    rintro σ' H2 ⟨v, rfl, s2, hg⟩
    have et : states.take ((toI states).map V.int).length = states := by rw [List.length_map, List.length_map, List.take_length]
    rw [et] at hg
    -- now = len(sorted(set(list(group.values()))))
    refine ⟨_, rfl, gp, _, rfl, hg, fun q1 hq1 => ?_⟩
    have s3 : Same H (upd H2 q1 (ViewO q1 gp)) := Same.up s2 hq1
    have hg3 : upd H2 q1 (ViewO q1 gp) gp = some (.dK (gd (g0 en) states)) := by rw [upd_ne (ne_of_none hg hq1)]; exact hg
    refine ⟨q1, gp, _, rfl, upd_same, hg3, fun q2 hq2 => ?_⟩
    refine ⟨q2, states.map fun q => (g0 en q : Int), rfl, SqL.of (by rw [upd_same, gd_vals] <;> rfl), ⟨[0, 1], fun k hk => ?_, by decide⟩, fun q3 hq3 => ?_⟩
    · obtain ⟨q, _, rfl⟩ := List.mem_map.mp hk
      unfold g0
      by_cases c : q ∈ en
      · simp [c]
      · simp [c]
    refine ⟨q3, _, rfl, upd_same, fun q4 ks hq4 ndk hks => ?_⟩
    refine ⟨q4, _, rfl, .inl (SqL.of upd_same), ?_⟩
    have hnow : ks.length = cnt (g0 en) states := cnt_int ndk hks
    have s4 := Same.up (o := .lst (ks.map (ZI P w).tv)) (Same.up (Same.up s3 hq2) hq3) hq4
    have hg4 := (Same.up (o := .lst (ks.map (ZI P w).tv)) (Same.up (same_new hq2) hq3) hq4) _ _ hg3
    refine while_my (fun σ H1 => ∃ (gp0 : Addr) (g : Nat → Nat) (many now : Nat) (v5 v7 v8 v9 : Option V), σ = [some (.ref a), some (.ref ke), some (.ref ls), some (.ref gp0), some (.int (many : Int)), v5, some (.int (now : Int)), v7, v8, v9, none] ∧ Same H H1 ∧ H gp0 = none ∧ H1 gp0 = some (.dK (gd g states)) ∧ Pt m st en states g many now)
      (fun σ H' => st.length + 1 - slotN σ 4) ⟨gp, g0 en, 0, cnt (g0 en) states, v, none, none, none, ?_, s4, hgp, hg4, pt_start h0⟩ ?_
    · rw [← hnow, ← List.length_map (f := (ZI P w).tv)] <;> rfl
    rintro σ H1 ⟨gp0, g, many, now, v5, v7, v8, v9, rfl, s1, hgp0, hg1, pt⟩
    refine ⟨_, rfl, _, rfl, rfl, _, rfl, ?_⟩
    by_cases c : now = many
    · have ec : (!decide (V.int (now : Int) = V.int (many : Int))) = false := by rw [c]; simp
      rw [ec]
      exact iteF ⟨_, rfl, k H1 gp0 g s1 hgp0 hg1 (pt_done hcl pt c.symm)⟩
    · have ec : (!decide (V.int (now : Int) = V.int (many : Int))) = true := by
        have : ¬ V.int (now : Int) = V.int (many : Int) := fun z => c (by injection z with z; omega)
        simp [this]
      rw [ec]
      refine iteT ⟨_, turn_my, ?_⟩
      refine ⟨_, rfl, fun kp hkp ap hap => ⟨_, _, _, rfl, ?_⟩⟩
      have sA : Same H1 (upd (upd H1 kp (.dT [])) ap (.dK [])) := Same.up (same_new hkp) hap
      have n1 : gp0 ≠ kp := ne_of_none hg1 hkp
      have n2 : gp0 ≠ ap := ne_of_none ((same_new hkp) _ _ hg1) hap
      have n3 : kp ≠ ap := ne_of_none upd_same hap
      have hkpH : H kp = none := Same.none s1 hkp
      have hapH : H ap = none := Same.none (s1.trans (same_new hkp)) hap
      refine ⟨_, rfl, ls, rfl, ⟨_, SqL.of (sA _ _ (s1 _ _ hS))⟩, ?_⟩
      refine for_list (xs := (toI states).map V.int) (fun i σ' H2 => ∃ v5 v9, σ' = [some (.ref a), some (.ref ke), some (.ref ls), some (.ref gp0), some (.int (now : Int)), v5, some (.int (now : Int)), some (.ref kp), some (.ref ap), v9, none] ∧ Same H H2 ∧ H2 gp0 = some (.dK (gd g states)) ∧
          H2 kp = some (.dT (kdF 0 (addAll [] ((states.take i).map (keyR m st g))))) ∧ H2 ap = some (.dK (gd (newG m st states g) (states.take i))))
        ⟨v5, v9, rfl, s1.trans sA, sA _ _ hg1, by rw [upd_ne n3]; exact upd_same, upd_same⟩ (fun i σ' H2 _ ⟨_, _, _, s2, _⟩ => SqL.of (s2 _ _ hS)) ?_ ?_
      · rintro i x σ' H2 hx ⟨v5, v9, rfl, s2, hg2, hk2, ha2⟩
        obtain ⟨z, hz, rfl⟩ := map_int_get hx
        obtain ⟨q, hq, rfl⟩ := toI_get hz
        have hqs : q ∈ states := List.mem_of_getElem? hq
        obtain ⟨row, hrow⟩ : ∃ row, st[q]? = some row := ⟨_, List.getElem?_eq_getElem (lt q hqs)⟩
        obtain ⟨as, b, r1, r2, r3⟩ := rows_at hR hrow
        have erow := row_map hv hrow
        have rlen : row.length = m := (hst.row _ (List.mem_of_getElem? hrow)).1
        refine ⟨_, rfl, _, rfl, gp0, _, rfl, dget_gd hg2 hqs, by show 1 ≤ sizeLine; decide, fun t1 ht1 => ?_⟩
        have s3 : Same H2 (upd H2 t1 (.tup [V.int (g q : Nat)])) := same_new ht1
        refine ⟨_, rfl, _, rfl, a, _, _, _, rfl, rfl, (r1.mono s2).mono s3, atI_nat (refs_at r2), b, _, H, rfl, r3, fun o e => s3 _ _ (s2 _ _ e), fun J wJ D hD => ?_⟩
        refine lc_it wJ (fun i H4 => ∃ acc, LcP (upd H2 t1 (.tup [V.int (g q : Nat)])) D (fun i acc _ => acc = (toI ((row.take i).map g)).map V.int) i H4 acc) (lcP_start hD fun _ _ => rfl) (fun i H4 _ ⟨acc, p⟩ => fun o e => p.all _ _ (s3 _ _ (s2 _ _ e))) ?_ ?_
        · rintro j x H4 _ hj ⟨acc, p⟩ ⟨rfl, hx4⟩
          obtain ⟨z4, hz4, rfl⟩ := map_int_get hx4
          obtain ⟨q4, hq4', rfl⟩ := toI_get hz4
          have hq4s : q4 ∈ states := hcl q hqs q4 (by
            have := List.mem_of_getElem? hq4'
            rw [erow] at this
            exact this)
          refine ⟨rfl, yesT ⟨_, rfl, _, rfl, gp0, _, rfl, dget_gd (p.all _ _ (s3 _ _ hg2)) hq4s, ?_⟩⟩
          refine lcP_put p hj (by rw [ivs_len, sizeLine_eq, rlen]; have := hst.let_; omega) (Same.refl _) ?_
          rw [p.is, List.take_add_one, hq4']
          simp [toI]
        rintro H4 ⟨acc, p⟩
        have eacc : acc = (toI ((nextR m st q).map g)).map V.int := by
          have := p.is
          rw [ivs_len, List.take_length] at this
          rw [this]
          unfold nextR
          rw [← erow]
        subst eacc
        refine ⟨D, _, rfl, .inl ⟨SqL.of p.at_, fun t2 ht2 => ?_⟩⟩
        have s5 : Same H2 (upd H4 t2 (.tup ((toI ((nextR m st q).map g)).map V.int))) := Same.up (s3.trans p.all) ht2
        have t1' : upd H4 t2 (.tup ((toI ((nextR m st q).map g)).map V.int)) t1 = some (.tup [V.int (g q : Nat)]) := (p.all.trans (same_new ht2)) _ _ upd_same
        refine cat_key t1' upd_same (fun z => nomatch z) (by
          rw [ivs_len, List.length_map, List.length_singleton, sizeLine_eq]
          unfold nextR
          rw [List.length_map, List.length_range]
          have := hst.let_
          omega) fun H5 kt s6 hkt => ?_
        have s7 : Same H2 H5 := s5.trans s6
        have hkt' : H5 kt = some (.tup (((keyR m st g q).map kI).map kV)) := by
          rw [hkt]
          unfold keyR
          simp [toI, kI, kV]
        refine ⟨_, rfl, kp, rfl, .inr ⟨_, .inl (s7 _ _ hk2)⟩, _, rfl, _, rfl, kp, _, rfl, s7 _ _ hk2, ?_⟩
        rw [kdF_len]
        have dlen : (addAll [] ((states.take i).map (keyR m st g))).length ≤ states.length := by
          have h1 := nodup_le (nodup0 ((states.take i).map (keyR m st g))) (U := states.map (keyR m st g)) fun x hx => by
            obtain ⟨p, hp, rfl⟩ := List.mem_map.mp (mem_addAll0.mp hx)
            exact List.mem_map.mpr ⟨p, List.mem_of_mem_take hp, rfl⟩
          rwa [List.length_map] at h1
        have eD : addAll (addAll [] ((states.take i).map (keyR m st g))) [keyR m st g q] = addAll [] ((states.take (i + 1)).map (keyR m st g)) := by
          rw [← addAll_append, List.take_add_one, hq, List.map_append] <;> rfl
        have eI : ixOf (addAll (addAll [] ((states.take i).map (keyR m st g))) [keyR m st g q]) (keyR m st g q) = newG m st states g q := by
          rw [eD]
          unfold newG keysR
          have e9 : states.map (keyR m st g) = (states.take (i + 1)).map (keyR m st g) ++ (states.drop (i + 1)).map (keyR m st g) := by
            rw [← List.map_append, List.take_append_drop]
          rw [e9, addAll_append]
          obtain ⟨t, ht⟩ := addAll_pre ((states.drop (i + 1)).map (keyR m st g)) (addAll [] ((states.take (i + 1)).map (keyR m st g)))
          rw [ht]
          exact (ixOf_app (mem_addAll0.mpr (List.mem_map.mpr ⟨q, by rw [List.take_add_one, hq]; exact List.mem_append_right _ List.mem_cons_self, rfl⟩))).symm
        have fin : ∀ H6 : Hp, (∀ p o, p ≠ kp → H5 p = some o → H6 p = some o) → H6 kp = some (.dT (kdF 0 (addAll (addAll [] ((states.take i).map (keyR m st g))) [keyR m st g q]))) →
            ∃ H7, DPut H6 ap (V.int (q : Int)) (V.int (ixOf (addAll (addAll [] ((states.take i).map (keyR m st g))) [keyR m st g q]) (keyR m st g q) : Nat)) H7 ∧ Same H H7 ∧ H7 gp0 = some (.dK (gd g states)) ∧
              H7 kp = some (.dT (kdF 0 (addAll [] ((states.take (i + 1)).map (keyR m st g))))) ∧ H7 ap = some (.dK (gd (newG m st states g) (states.take (i + 1)))) := by
          intro H6 s8 hk6
          have hap2 : H6 ap = some (.dK (gd (newG m st states g) (states.take i))) := s8 _ _ n3.symm (s7 _ _ ha2)
          rw [eI]
          rw [eD] at hk6
          have sF : Same H H6 := fun p o e => s8 p o (ne_of_none e hkpH) (s7 _ _ (s2 _ _ e))
          refine ⟨_, DPut.k (k := kI q) hap2 (by rw [gd_len, List.length_take, sizeLine_eq]; omega), same_mut sF hapH, ?_, ?_, ?_⟩
          · rw [upd_ne n2]
            exact s8 _ _ n1 (s7 _ _ hg2)
          · rw [upd_ne n3]
            exact hk6
          · rw [upd_same, gd_snoc (notin_take ndS hq), List.take_add_one, hq] <;> rfl
        generalize hD : addAll [] ((states.take i).map (keyR m st g)) = D at fin dlen hk2
        refine ⟨kdF 0 D, (keyR m st g q).map kI, kt, s7 _ _ hk2, rfl, hkt', by rw [kdF_len, sizeLine_eq]; omega, fun v hv => ?_, fun hn => ?_⟩
        · by_cases c : keyR m st g q ∈ D
          · rw [kdF_some c, Nat.zero_add] at hv
            have e : addAll D [keyR m st g q] = D := by rw [addAll_cons, if_pos c] <;> rfl
            rw [e] at fin
            rw [← Option.some.inj hv]
            obtain ⟨H7, p1, p2⟩ := fin H5 (fun _ _ _ e => e) (s7 _ _ hk2)
            exact ⟨_, rfl, _, rfl, ap, H7, rfl, p1, _, _, rfl, p2⟩
          · rw [kdF_none c] at hv
            cases hv
        · by_cases c : keyR m st g q ∈ D
          · rw [kdF_some c] at hn
            cases hn
          · have e : addAll D [keyR m st g q] = D ++ [keyR m st g q] := by rw [addAll_cons, if_neg c] <;> rfl
            rw [e, ixOf_new c] at fin
            rw [kdF_put c]
            obtain ⟨H7, p1, p2⟩ := fin (upd H5 kp (.dT (kdF 0 (D ++ [keyR m st g q])))) (fun p o hp e => by rw [upd_ne hp]; exact e) upd_same
            exact ⟨_, rfl, _, rfl, ap, H7, rfl, p1, _, _, rfl, p2⟩
      · rintro σ' H2 ⟨v5, v9, rfl, s2, hg2, hk2, ha2⟩
        rw [ivs_len, List.take_length] at hk2 ha2
        refine ⟨_, rfl, _, rfl, kp, _, rfl, hk2, by show 2 ≤ sizeLine; decide, fun t3 ht3 => ?_⟩
        have s3 := same_new (o := .tup [V.ref ap, V.int ((kdF 0 (addAll [] (states.map (keyR m st g)))).length : Nat)]) ht3
        refine ⟨t3, _, rfl, SqT.of upd_same, rfl, _, _, rfl, _, _, rfl, rfl, ⟨ap, newG m st states g, now, (keysR m st states g).length, v5, some (.ref kp), some (.ref ap), v9, ?_, s2.trans s3, hapH, s3 _ _ ha2, pt_step hcl pt⟩, ?_⟩
        · rw [kdF_len] <;> rfl
        · show st.length + 1 - (now : Int).toNat < st.length + 1 - (many : Int).toNat
          have h1 := pt.le
          have h2 : now ≤ states.length := by
            rw [pt.num]
            have h1 := nodup_le (nodup0 (states.map g)) (U := states.map g) fun x hx => mem_addAll0.mp hx
            rwa [List.length_map] at h1
          omega
end
end K81
end
section
set_option Elab.async false
set_option maxRecDepth 100000
set_option maxHeartbeats 4000000
set_option linter.all false
set_option pp.maxSteps 1500
set_option pp.deepTerms false
/-! least_form -/
namespace K81
open PySem PySem.Spec PyProof.Rows L2 K81M
theorem ixOf_nodup {o : List Nat} (nd : o.Nodup) {i c : Nat} (h : o[i]? = some c) : ixOf o c = i := by
  have h1 := ixOf_get (List.mem_of_getElem? h)
  have hi := (List.getElem?_eq_some_iff.mp h).1
  exact ((List.getElem?_inj hi nd).mp (h.trans h1.symm)).symm
section
variable {P : Program} {w : World} {K : PySem.W.Frag} {mg : Str → Option Value} {base : Heap}
/-- a tracked pair: steps, ends -/
def Told (H : Hp) (tp : Addr) (st : List (List Nat)) (en : List Nat) : Prop := ∃ tt te, H tp = some (.tup [.ref tt, .ref te]) ∧ TT H tt (toR st) ∧ H te = some (.tup ((toI en).map V.int))
def spLeastForm (K : PySem.W.Frag) : Sp := fun vs H Q _ => ∃ (a ea : Addr) (m : Nat) (st : List (List Nat)) (en : List Nat), vs = [.ref a, .ref ea] ∧ Rows K H a (toR st) ∧ Sts m st ∧ Sq K H ea ((toI en).map V.int) ∧ (∀ q ∈ en, q < st.length) ∧ en.length ≤ 1000000 ∧
  ∀ (H' : Hp) (tp : Addr) (st' : List (List Nat)) (en' : List Nat), Same H H' → Told H' tp st' en' → Canon m (lang m st en) st' en' → Q (.ref tp) H'
abbrev nmLeast : List Str := ["steps", "ends", "states", "kept", "end", "group", "heads", "state", "order", "at", "place", "spot", "one", "told"]
def lcOne : Scope := { kind := ScopeKind.function, names := [(".0", .local), ("one", .local), ("tuple", .globalImplicit), ("group", .cell), ("heads", .cell), ("place", .cell), ("steps", .cell)], isGenerator := false, isCoroutine := false }
theorem scLeastForm : FnScope nmLeast ["steps", "ends"] (defScope sLeastForm) := ⟨rfl, rfl, rfl, by decide +kernel, rfl, by decide +kernel, by decide +kernel⟩
theorem c_least_form (T : Txt K mg) : Cal P w K mg base 2 "least_form" ["steps", "ends"] (spLeastForm K) := by
  refine cal sLeastForm T 12 12 rfl rfl scLeastForm (fun _ _ _ _ _ _ us hl => match us, hl with | [_, _], _ => rfl) (fun vs H Q E h => ?_) (fun cdv A outer s H vs Q E hr h => ?_)
  · obtain ⟨a, ea, m, st, en, rfl, _⟩ := h
    rfl
  · obtain ⟨a, ea, m, st, en, rfl, hR, hst, hE, hEl, hEn, k⟩ := h
    have hu := hu_of hr
    have nd := scLeastForm.nd
    refine ⟨_, pss_cons (ps_asg (pe_tup (pa_cons (pe_c (c_led_to T) hr (by decide) (pa_cons (pv 0) pa_nil)) (pa_cons pe_dnewK pa_nil))) (pg_tup rfl (pgs_cons (pg_name (i := 2) nd rfl (Or.inl rfl)) (pgs_cons (pg_name (i := 3) nd rfl (Or.inr rfl)) pgs_nil))))
      (pss_cons (ps_for PassesOwn.never rfl (pi_sq (pv 1)) (pg_name (i := 4) nd rfl (Or.inl rfl)) (pss_one (ps_dput hu (pv 3) (pv 4) pe_bl rfl)))
      (pss_cons (ps_set (i := 5) nd rfl (Or.inr rfl) (pe_c (c_parted T) hr (by decide) (pa_cons (pv 0) (pa_cons (pv 3) (pa_cons (pv 2) pa_nil)))))
      (pss_cons (ps_set (i := 6) nd rfl (Or.inr rfl) pe_dnewK)
      (pss_cons (ps_for PassesOwn.never rfl (pi_list (pv 2)) (pg_name (i := 7) nd rfl (Or.inl rfl)) (pss_one (ps_expr (pe_dsetd (pv 6) (pe_dget hu (pv 5) (pv 7) (fun _ _ => rfl)) (pv 7) ⟨rfl, rfl, rfl, rfl⟩))))
      (pss_cons (ps_par (i := 8) (j := 9) rfl nd rfl rfl (by decide) rfl rfl (pa_cons (pe_lst (pa_cons (pe_dget hu (pv 5) pe_int (fun _ _ => rfl)) pa_nil)) (pa_cons pe_int pa_nil)) (by rfl))
      (pss_cons (ps_while PassesOwn.never (pt_cmpR op_lt (pv 9) (pe_callB call_len_seq (by rfl) (T.f 0 rfl) boot_len (pa_cons (pv 8) pa_nil)) (nomark _))
        (pss_cons (ps_for PassesOwn.never rfl (pi_sq (pe_ix ix_sq (pv 0) (pe_dget hu (pv 6) (pe_ix ix_list (pv 8) (pv 9) (fun _ _ => rfl)) (fun _ _ => rfl)) (fun _ _ => rfl))) (pg_name (i := 7) nd rfl (Or.inl rfl))
          (pss_one (ps_if (pt_cmpR op_notIn_seq (pe_dget hu (pv 5) (pv 7) (fun _ _ => rfl)) (pv 8) (by rfl))
            (pss_one (ps_expr (pe_bm PySem.F.plainAttrs_list PySem.F.slot_list_append PySem.F.type_list_append mt_append (pv 8) (pa_cons (pe_dget hu (pv 5) (pv 7) (fun _ _ => rfl)) pa_nil)))) pss_nil)))
        (pss_one (ps_set (i := 9) nd rfl (Or.inl rfl) (pe_op op_add (pv 9) pe_int)))))
      (pss_cons (ps_set (i := 10) nd rfl (Or.inr rfl) pe_dnewK)
      (pss_cons (ps_for PassesOwn.never rfl (pi_enum (by rfl) (T.f 11 rfl) (pa_cons (pv 8) pa_nil)) (pg_tup rfl (pgs_cons (pg_name (i := 11) nd rfl (Or.inl rfl)) (pgs_cons (pg_name (i := 12) nd rfl (Or.inl rfl)) pgs_nil)))
        (pss_one (ps_dput hu (pv 10) (pv 12) (pv 11) rfl)))
      (pss_cons (ps_set (i := 13) nd rfl (Or.inl rfl) (pe_callTy call_tuple_of (by rfl) (T.f 8 rfl) boot_tuple
        (pa_cons (pe_lc (own := [("one", 12)]) (g := gName 12) (tt := tYes) rfl nd (pi_list (pv 8)) (blkOk_by (N := nmLeast) (sc := defScope sLeastForm) (by decide +kernel)) (fun _ _ _ _ _ => pg_name (i := 12) nd rfl (Or.inl rfl)) (fun _ _ _ _ _ => pts_nil)
          (fun _ _ _ _ _ => pe_callTy (call_tuple_ofk (K := K) rfl) (by rfl) (T.f 8 rfl) boot_tuple
            (pa_cons (pe_lc (own := [("state", 7)]) (g := gName 7) (tt := tYes) rfl nd (pi_sqk (K := K) rfl (pe_ix (ix_sqk (K := K) rfl) (pv 0) (pe_dget hu (pv 6) (pv 12) (fun _ _ => rfl)) (fun _ _ => rfl))) (blkOk_by (N := nmLeast) (sc := lcOne) (by decide +kernel)) (fun _ _ _ _ _ => pg_name (i := 7) nd rfl (Or.inl rfl)) (fun _ _ _ _ _ => pts_nil)
              (fun _ _ _ _ _ => pe_dget hu (pv 10) (pe_dget hu (pv 5) (pv 7) (fun _ _ => rfl)) (fun _ _ => rfl))) pa_nil))) pa_nil)))
      (pss_one (ps_ret (pe_tup (pa_cons (pv 13) (pa_cons (pe_callTy call_tuple_of (by rfl) (T.f 8 rfl) boot_tuple
        (pa_cons (pe_lc (own := [("spot", 11), ("one", 12)]) rfl nd (pi_enum (by rfl) (T.f 11 rfl) (pa_cons (pv 8) pa_nil)) (blkOk_by (N := nmLeast) (sc := defScope sLeastForm) (by decide +kernel))
          (fun _ _ _ _ _ => pg_tupk (K := K) (n := 2) rfl rfl (pgs_cons (pg_name (i := 11) nd rfl (Or.inl rfl)) (pgs_cons (pg_name (i := 12) nd rfl (Or.inl rfl)) pgs_nil))) (fun _ _ _ _ _ => pts_one (pt_cmp (pc_din hu (pe_dget hu (pv 6) (pv 12) (fun _ _ => rfl)) (pv 3)) (by rfl)))
          (fun _ _ _ _ _ => pv 11)) pa_nil)) pa_nil)))))))))))))), ?_⟩
    have hv : Valid m st en := ⟨hst.pos, hst.row, hEl⟩
    have hv0 := hst.v
    have few := hst.few
    -- states, kept = (led_to(steps), {})
    refine ⟨_, rfl, a, m, st, rfl, hR, hst, fun H1 sp states s1 hsp hS hB kp hkp => ?_⟩
    refine ⟨by show 2 ≤ sizeLine; decide, fun tp htp => ⟨tp, _, rfl, SqT.of upd_same, rfl, _, _, rfl, _, _, rfl, rfl, ?_⟩⟩
    have lt : ∀ q ∈ states, q < st.length := hB.all (C := fun q => q < st.length) (fun x hx y hy => by
      obtain ⟨l, hl, rfl⟩ := mem_nextR.mp hy
      exact hv0.go hx hl) fun q hq => by rw [List.mem_singleton.mp hq]; exact hst.pos
    have ndS : states.Nodup := hB.nodup (List.nodup_cons.mpr ⟨by simp, List.nodup_nil⟩)
    have lenS : states.length ≤ st.length := by
      have := nodup_le ndS (U := List.range st.length) fun x hx => List.mem_range.mpr (lt x hx)
      rwa [List.length_range] at this
    have h0 : (0 : Nat) ∈ states := hB.sub List.mem_cons_self
    have hcl : ∀ q ∈ states, ∀ p ∈ nextR m st q, p ∈ states := hB.closed0
    have s2 : Same H (upd (upd H1 kp (.dK [])) tp (.tup [V.ref sp, V.ref kp])) := Same.up (s1.trans (same_new hkp)) htp
    have hk2 : (upd (upd H1 kp (.dK [])) tp (.tup [V.ref sp, V.ref kp])) kp = some (.dK []) := by rw [upd_ne (ne_of_none upd_same htp)]; exact upd_same
    have hs2 : (upd (upd H1 kp (.dK [])) tp (.tup [V.ref sp, V.ref kp])) sp = some (.lst ((toI states).map V.int)) := (Same.up (same_new hkp) htp) _ _ hS
    have hkpH : H kp = none := Same.none s1 hkp
    -- for end in ends: kept[end] = True
    refine ⟨_, rfl, ea, _, H, rfl, hE, fun o e => s2 _ _ e, fun J wJ => ?_⟩
    refine for_it wJ (fun i σ' H2 => ∃ v4, σ' = [some (.ref a), some (.ref ea), some (.ref sp), some (.ref kp), v4, none, none, none, none, none, none, none, none, none] ∧ Same H H2 ∧ H2 sp = some (.lst ((toI states).map V.int)) ∧
        ∃ kvs, H2 kp = some (.dK kvs) ∧ kvs.length ≤ i ∧ ∀ q, (valV kvs (kI q)).isSome = decide (q ∈ en.take i))
      ⟨none, rfl, s2, hs2, [], hk2, Nat.le_refl _, fun q => rfl⟩ (fun i σ' H2 _ ⟨_, _, s3, _⟩ => fun o e => s3 _ _ e) ?_ ?_
    · rintro i x σ' H2 _ hi ⟨v4, rfl, s3, hs3, kvs, hk3, hl3, hq3⟩ ⟨rfl, hx⟩
      obtain ⟨z, hz, rfl⟩ := map_int_get hx
      obtain ⟨q, hq, rfl⟩ := toI_get hz
      rw [ivs_len] at hi
      refine ⟨_, rfl, _, rfl, kp, _, rfl, DPut.k (k := kI q) hk3 (by rw [sizeLine_eq]; omega), _, rfl, same_mut s3 hkpH, ?_, _, upd_same, Nat.le_trans (length_putK _ _ _) (by omega), fun p => ?_⟩
      · rw [upd_ne (ne_of hs3 hk3 (fun z => nomatch z))]
        exact hs3
      · rw [valV_put, List.take_add_one, hq]
        by_cases c : kI p = kI q
        · rw [if_pos c, kI_inj c]
          simp
        · rw [if_neg c, hq3 p]
          have c' : ¬ p = q := fun z => c (by rw [z])
          simp [c']
    rintro σ' H2 ⟨v4, rfl, s3, hs3, kvs, hk3, hl3, hq3⟩
    rw [ivs_len] at hl3 hq3
    rw [List.take_length] at hq3
    -- group = parted(steps, kept, states)
    refine ⟨_, rfl, _, rfl, _, rfl, a, kp, sp, m, st, en, states, rfl, hR.mono s3, hst, ⟨kvs, hk3, fun q _ => hq3 q⟩, hs3, hB, fun H3 gp g s4 hgp hg G => ?_⟩
    -- heads = {}
    intro hp hhp
    have s5 : Same H2 (upd H3 hp (.dK [])) := Same.up s4 hhp
    have hg5 : (upd H3 hp (.dK [])) gp = some (.dK (gd g states)) := by rw [upd_ne (ne_of_none hg hhp)]; exact hg
    have nhg : gp ≠ hp := ne_of_none hg hhp
    have hpH : H hp = none := Same.none (s3.trans s4) hhp
    have hpH2 : H2 hp = none := Same.none s4 hhp
    refine ⟨_, rfl, sp, rfl, ⟨_, SqL.of (s5 _ _ hs3)⟩, ?_⟩
    refine for_list (xs := (toI states).map V.int) (fun i σ' H4 => ∃ v7, σ' = [some (.ref a), some (.ref ea), some (.ref sp), some (.ref kp), v4, some (.ref gp), some (.ref hp), v7, none, none, none, none, none, none] ∧ Same H2 H4 ∧ H4 gp = some (.dK (gd g states)) ∧
        ∃ hvs, H4 hp = some (.dK hvs) ∧ hvs.length ≤ i ∧ (∀ c v, valV hvs (kI c) = some v → ∃ q0 ∈ states, g q0 = c ∧ v = V.int (q0 : Nat)) ∧ ∀ q ∈ states.take i, (valV hvs (kI (g q))).isSome = true)
      ⟨none, rfl, s5, hg5, [], upd_same, Nat.le_refl _, (fun c v z => nomatch z), fun q hq => by simp at hq⟩ (fun i σ' H4 _ ⟨_, _, s6, _⟩ => SqL.of (s6 _ _ hs3)) ?_ ?_
    · rintro i x σ' H4 hx ⟨v7, rfl, s6, hg6, hvs, hh6, hl6, hv6, hq6⟩
      obtain ⟨z, hz, rfl⟩ := map_int_get hx
      obtain ⟨q, hq, rfl⟩ := toI_get hz
      have hqs : q ∈ states := List.mem_of_getElem? hq
      have hi := (List.getElem?_eq_some_iff.mp hq).1
      refine ⟨_, rfl, hp, rfl, .inl ⟨_, .inl hh6⟩, _, rfl, _, rfl, gp, _, rfl, dget_gd hg6 hqs, _, rfl, hvs, kI (g q), hh6, rfl, by rw [sizeLine_eq]; omega, fun v hv => ?_, fun hn => ?_⟩
      · refine ⟨_, rfl, s6, hg6, hvs, hh6, by omega, hv6, fun p hp2 => ?_⟩
        rw [List.take_add_one, hq] at hp2
        rcases List.mem_append.mp hp2 with z | z
        · exact hq6 p z
        · have e : p = q := by simpa using z
          subst e
          rw [hv] <;> rfl
      · refine ⟨_, rfl, same_mut s6 hpH2, ?_, _, upd_same, Nat.le_trans (length_putK _ _ _) (by omega), fun c v hv => ?_, fun p hp2 => ?_⟩
        · rw [upd_ne nhg]
          exact hg6
        · rw [valV_put] at hv
          by_cases d : kI c = kI (g q)
          · rw [if_pos d] at hv
            exact ⟨q, hqs, (kI_inj d).symm, (Option.some.inj hv).symm⟩
          · rw [if_neg d] at hv
            exact hv6 c v hv
        · rw [valV_put]
          by_cases d : kI (g p) = kI (g q)
          · rw [if_pos d] <;> rfl
          · rw [if_neg d]
            rw [List.take_add_one, hq] at hp2
            rcases List.mem_append.mp hp2 with z | z
            · exact hq6 p z
            · have e : p = q := by simpa using z
              exact absurd (by rw [e]) d
    rintro σ' H4 ⟨v7, rfl, s6, hg6, hvs, hh6, _, hv6, hq6⟩
    rw [ivs_len, List.take_length] at hq6
    obtain ⟨hd, hhd⟩ : ∃ hd : Nat → Nat, ∀ q ∈ states, (hd (g q) ∈ states ∧ g (hd (g q)) = g q) ∧ valV hvs (kI (g q)) = some (.int (hd (g q) : Nat)) := by
      refine ⟨fun c => match valV hvs (kI c) with
        | some (.int z) => z.toNat
        | _ => 0, fun q hq => ?_⟩
      obtain ⟨v, hv⟩ := Option.isSome_iff_exists.mp (hq6 q hq)
      obtain ⟨q0, e1, e2, rfl⟩ := hv6 _ _ hv
      simp only [hv]
      exact ⟨⟨e1, e2⟩, rfl⟩
    have hh := fun q hq => (hhd q hq).1
    have hdG : ∀ (H : Hp) (q : Nat), H hp = some (.dK hvs) → q ∈ states → DGet H hp (V.int (g q : Nat)) (some (V.int (hd (g q) : Nat))) := fun H q e hq => by
      have := DGet.k (k := kI (g q)) e
      rwa [(hhd q hq).2] at this
    -- order, at = ([group[0]], 0)
    refine ⟨_, rfl, gp, _, rfl, dget_gd (q := 0) hg6 h0, by show 1 ≤ sizeLine; decide, fun op hop => ⟨_, _, rfl, ?_⟩⟩
    have hopH2 : H2 op = none := Same.none s6 hop
    let nx : Nat → List Nat := fun c => (nextR m st (hd c)).map g
    have hC : ∀ x, (∃ q ∈ states, x = g q) → ∀ y ∈ nx x, ∃ q ∈ states, y = g q := by
      rintro _ ⟨q, hq, rfl⟩ y hy
      obtain ⟨p, hp, rfl⟩ := List.mem_map.mp hy
      exact ⟨p, hcl _ (hh q hq).1 p hp, rfl⟩
    refine while_my (fun σ H' => ∃ (o : List Nat) (n : Nat) (v : Option V), σ = [some (.ref a), some (.ref ea), some (.ref sp), some (.ref kp), v4, some (.ref gp), some (.ref hp), v, some (.ref op), some (.int (n : Int)), none, none, none, none] ∧ Same H4 H' ∧ H' op = some (.lst ((toI o).map V.int)) ∧ o.Nodup ∧ (∀ c ∈ o, ∃ q ∈ states, c = g q) ∧ ∀ r, Bfs nx o n r → Bfs nx [g 0] 0 r)
      (fun σ H' => states.length - slotN σ 9) ⟨[g 0], 0, v7, rfl, same_new hop, upd_same, List.nodup_cons.mpr ⟨by simp, List.nodup_nil⟩, fun c hc => ⟨0, h0, List.mem_singleton.mp hc⟩, fun r h => h⟩ ?_
    rintro σ H5 ⟨o, n, v, rfl, s7, ho, ndo, hco, cont⟩
    have hol : o.length ≤ states.length := by
      have := nodup_le ndo (U := states.map g) fun x hx => by
        obtain ⟨q, hq, rfl⟩ := hco x hx
        exact List.mem_map.mpr ⟨q, hq, rfl⟩
      rwa [List.length_map] at this
    refine ⟨_, rfl, _, rfl, op, _, rfl, .inl (SqL.of ho), _, _, rfl, rfl, _, rfl, ?_⟩
    rw [ivs_len]
    refine ite2 (fun c => ?_) (fun c => ?_)
    · have hn : n < o.length := by have := of_decide_eq_true c; omega
      have hx : o[n]? = some o[n] := List.getElem?_eq_getElem hn
      obtain ⟨q, hq, eq⟩ := hco _ (List.getElem_mem hn)
      rw [eq] at hx
      obtain ⟨row, hrow⟩ : ∃ row, st[hd (g q)]? = some row := ⟨_, List.getElem?_eq_getElem (lt _ (hh q hq).1)⟩
      obtain ⟨as, b, h1, h2, h3⟩ := rows_at hR hrow
      have erow := row_map hv0 hrow
      have sAll : Same H H5 := s3.trans (s6.trans s7)
      refine ⟨_, turn_my, ?_⟩
      refine ⟨_, rfl, _, rfl, _, rfl, _, rfl, op, _, _, _, rfl, rfl, SqL.of ho, atI_nat (ints_at (toI_at hx)), hp, _, rfl, hdG _ q (s7 _ _ hh6) hq, a, _, _, _, rfl, rfl, h1.mono sAll, atI_nat (refs_at h2), b, _, H, rfl, h3, fun o e => sAll _ _ e, fun J wJ => ?_⟩
      refine for_it wJ (fun i σ' H6 => ∃ v', σ' = [some (.ref a), some (.ref ea), some (.ref sp), some (.ref kp), v4, some (.ref gp), some (.ref hp), v', some (.ref op), some (.int (n : Int)), none, none, none, none] ∧ Same H4 H6 ∧ H6 op = some (.lst ((toI (addAll o ((row.take i).map g))).map V.int)))
        ⟨v, rfl, s7, ho⟩ (fun i σ' H6 _ ⟨_, _, s8, _⟩ => fun o e => s8 _ _ (s6 _ _ (s3 _ _ e))) ?_ ?_
      · rintro i x σ' H6 _ hi ⟨v', rfl, s8, ho8⟩ ⟨rfl, hx2⟩
        obtain ⟨z, hz, rfl⟩ := map_int_get hx2
        obtain ⟨p, hp2, rfl⟩ := toI_get hz
        have hps : p ∈ states := hcl _ (hh q hq).1 p (by
          have := List.mem_of_getElem? hp2
          rw [erow] at this
          exact this)
        refine ⟨_, rfl, _, rfl, gp, _, rfl, dget_gd (s8 _ _ hg6) hps, _, rfl, op, _, rfl, .inl (SqL.of ho8), rfl, flat_ints _, _, rfl, ?_⟩
        rw [inV_nat]
        have ea : addAll o ((row.take (i + 1)).map g) = if g p ∈ addAll o ((row.take i).map g) then addAll o ((row.take i).map g) else addAll o ((row.take i).map g) ++ [g p] := by
          rw [List.take_add_one, hp2, List.map_append, addAll_append] <;> rfl
        by_cases hin : g p ∈ addAll o ((row.take i).map g)
        · rw [decide_eq_true hin]
          refine iteF ⟨_, rfl, s8, ?_⟩
          rw [ea, if_pos hin]
          exact ho8
        · rw [decide_eq_false hin]
          have lt2 : (addAll o ((row.take i).map g)).length ≤ states.length := by
            have := nodup_le (addAll_nodup ((row.take i).map g) o ndo) (U := states.map g) fun x hx => by
              rcases (addAll_mem _ _ _).mp hx with z | z
              · obtain ⟨q, hq, rfl⟩ := hco x z
                exact List.mem_map.mpr ⟨q, hq, rfl⟩
              · obtain ⟨y, hy, rfl⟩ := List.mem_map.mp z
                have hy2 := List.mem_of_mem_take hy
                rw [erow] at hy2
                exact List.mem_map.mpr ⟨y, hcl _ (hh q hq).1 y hy2, rfl⟩
            rwa [List.length_map] at this
          refine iteT ⟨_, rfl, .inl ⟨rfl, _, SqL.of ho8⟩, _, rfl, _, rfl, gp, _, rfl, dget_gd (s8 _ _ hg6) hps, op, _, _, rfl, rfl, ho8, ?_, _, rfl, same_mut s8 hop, ?_⟩
          · rw [ivs_len, sizeLine_eq]
            omega
          · rw [ea, if_neg hin, upd_same, ivs_snoc]
      · rintro σ' H6 ⟨v', rfl, s8, ho8⟩
        have ef : (row.take ((toI row).map V.int).length).map g = nx (g q) := by
          rw [ivs_len, List.take_length, erow] <;> rfl
        rw [ef] at ho8
        refine ⟨_, rfl, _, _, rfl, rfl, ⟨addAll o (nx (g q)), n + 1, v', ?_, s8, ho8, addAll_nodup _ _ ndo, fun c hc => ?_, fun r hr => cont r (.step hx hr)⟩, ?_⟩
        · rw [show ((n + 1 : Nat) : Int) = (n : Int) + 1 by omega] <;> rfl
        · rcases (addAll_mem _ _ _).mp hc with z | z
          · exact hco c z
          · exact hC _ ⟨q, hq, rfl⟩ c z
        · show states.length - ((n : Int) + 1).toNat < states.length - (n : Int).toNat
          omega
    · have hn : ¬ n < o.length := fun z => c (decide_eq_true (by omega))
      have B : Bfs nx [g 0] 0 o := cont o (.done (by omega))
      have sAll : Same H H5 := s3.trans (s6.trans s7)
      have hkp5 : H5 kp = some (.dK kvs) := s7 _ _ (s6 _ _ hk3)
      have hhp5 := s7 _ _ hh6
      have hgp5 := s7 _ _ hg6
      -- place
      intro pp hpp
      have s8 : Same H5 (upd H5 pp (.dK [])) := same_new hpp
      refine ⟨_, rfl, op, _, rfl, SqL.of (s8 _ _ ho), ?_⟩
      refine for_it walk_enum (fun i σ' H6 => ∃ v11 v12, σ' = [some (.ref a), some (.ref ea), some (.ref sp), some (.ref kp), v4, some (.ref gp), some (.ref hp), v, some (.ref op), some (.int (n : Int)), some (.ref pp), v11, v12, none] ∧ Same H5 H6 ∧ H6 pp = some (.dK (gd (ixOf o) (o.take i))))
        ⟨none, none, rfl, s8, upd_same⟩ (fun i σ' H6 _ ⟨_, _, _, s9, _⟩ => SqL.of (s9 _ _ ho)) ?_ ?_
      · rintro i x σ' H6 _ hi ⟨v11, v12, rfl, s9, hp9⟩ ⟨T1, x1, y1, rfl, hT, rfl, e1, e2⟩
        obtain ⟨z, hz, rfl⟩ := map_int_get e2
        obtain ⟨c1, hc1, rfl⟩ := toI_get hz
        obtain rfl := Option.some.inj e1
        rw [ivs_len] at hi
        have s10 : Same H6 (upd H6 T1 (.tup [V.int (i : Nat), V.int (c1 : Nat)])) := same_new hT
        refine ⟨T1, _, rfl, SqT.of upd_same, rfl, _, _, rfl, _, _, rfl, rfl, _, rfl, _, rfl, _, rfl, pp, _, rfl, DPut.k (k := kI c1) (s10 _ _ hp9) (by rw [gd_len, List.length_take, sizeLine_eq]; omega), _, _, rfl, same_mut (s9.trans s10) hpp, ?_⟩
        have e9 := gd_snoc (g := ixOf o) (notin_take ndo hc1)
        rw [ixOf_nodup ndo hc1] at e9
        rw [upd_same, List.take_add_one, hc1, e9] <;> rfl
      rintro σ' H6 ⟨v11, v12, rfl, s9, hp9⟩
      rw [ivs_len, List.take_length] at hp9
      -- told
      let RW : Nat → List Int := fun c => toI ((nextR m st (hd c)).map fun q => ixOf o (g q))
      refine ⟨_, rfl, op, rfl, ⟨_, SqL.of (s9 _ _ ho)⟩, fun D hD => ?_⟩
      refine lc_list (xs := (toI o).map V.int) (fun i H7 => ∃ acc, LcP H6 D (fun i acc Hh => ∃ as : List Addr, acc = as.map V.ref ∧ Paired (fun b (r : List Int) => Hh b = some (.tup (r.map V.int))) as ((o.take i).map RW)) i H7 acc)
        (lcP_start hD fun _ _ => ⟨[], rfl, .nil⟩) (fun i H7 _ ⟨acc, p⟩ => SqL.of (p.all _ _ (s9 _ _ ho))) ?_ ?_
      · rintro i x H7 hx ⟨acc, p⟩
        obtain ⟨z, hz, rfl⟩ := map_int_get hx
        obtain ⟨c1, hc1, rfl⟩ := toI_get hz
        obtain ⟨q, hq, rfl⟩ := hco c1 (List.mem_of_getElem? hc1)
        obtain ⟨row, hrow⟩ : ∃ row, st[hd (g q)]? = some row := ⟨_, List.getElem?_eq_getElem (lt _ (hh q hq).1)⟩
        obtain ⟨as, b, h1, h2, h3⟩ := rows_at hR hrow
        have erow := row_map hv0 hrow
        have sP : Same H5 H7 := s9.trans p.all
        have sQ : Same H H7 := sAll.trans sP
        refine ⟨rfl, yesT ⟨_, rfl, _, rfl, _, rfl, hp, _, rfl, hdG _ q (sP _ _ hhp5) hq, a, _, _, _, rfl, rfl, h1.mono sQ, atI_nat (refs_at h2), b, _, H, rfl, h3, fun o e => sQ _ _ e, fun J wJ D2 hD2 => ?_⟩⟩
        refine lc_it wJ (fun j H8 => ∃ acc, LcP H7 D2 (fun j acc _ => acc = (toI ((row.take j).map fun q => ixOf o (g q))).map V.int) j H8 acc) (lcP_start hD2 fun _ _ => rfl) (fun j H8 _ ⟨acc, p2⟩ => fun o e => p2.all _ _ (sQ _ _ e)) ?_ ?_
        · rintro j x H8 _ hj ⟨acc2, p2⟩ ⟨rfl, hx4⟩
          obtain ⟨z4, hz4, rfl⟩ := map_int_get hx4
          obtain ⟨q4, hq4', rfl⟩ := toI_get hz4
          have hq4s : q4 ∈ states := hcl _ (hh q hq).1 q4 (by
            have := List.mem_of_getElem? hq4'
            rw [erow] at this
            exact this)
          have hgo : g q4 ∈ o := (B.closed0 _ (List.mem_of_getElem? hc1) _ (List.mem_map.mpr ⟨q4, by
            have := List.mem_of_getElem? hq4'
            rw [erow] at this
            exact this, rfl⟩))
          refine ⟨rfl, yesT ⟨_, rfl, _, rfl, _, rfl, gp, _, rfl, dget_gd (p2.all _ _ (sP _ _ hgp5)) hq4s, pp, _, rfl, dget_gd (p2.all _ _ (p.all _ _ hp9)) hgo, ?_⟩⟩
          have rlen : row.length = m := (hst.row _ (List.mem_of_getElem? hrow)).1
          refine lcP_put p2 hj (by rw [ivs_len, sizeLine_eq, rlen]; have := hst.let_; omega) (Same.refl _) ?_
          rw [p2.is, List.take_add_one, hq4']
          simp [toI]
        rintro H8 ⟨acc2, p2⟩
        have ea2 : acc2 = (RW (g q)).map V.int := by
          have := p2.is
          rw [ivs_len, List.take_length] at this
          rw [this, erow] <;> rfl
        subst ea2
        refine ⟨D2, _, rfl, .inl ⟨SqL.of p2.at_, fun t2 ht2 => ?_⟩⟩
        have s10 : Same H7 (upd H8 t2 (.tup ((RW (g q)).map V.int))) := Same.up p2.all ht2
        have nD : t2 ≠ D := fun z => by
          have := p2.all _ _ p.at_
          rw [← z, ht2] at this
          cases this
        obtain ⟨as', rfl, hpa⟩ := p.is
        refine lcP_put p (n := o.length) (List.getElem?_eq_some_iff.mp hc1).1 (by rw [sizeLine_eq]; omega) s10 ⟨as' ++ [t2], by rw [List.map_append] <;> rfl, ?_⟩
        rw [List.take_add_one, hc1, List.map_append]
        exact Paired.snoc (Paired.mono hpa fun _ _ e => Same.hole s10 _ _ e) (by rw [hole_ne nD]; exact upd_same)
      rintro H7 ⟨acc, p⟩
      obtain ⟨as1, rfl, hpa⟩ := p.is
      rw [ivs_len, List.take_length] at hpa
      refine ⟨D, _, rfl, .inl ⟨SqL.of p.at_, fun tt htt => ?_⟩⟩
      have s11 : Same H6 (upd H7 tt (.tup (as1.map V.ref))) := Same.up p.all htt
      have hTT : TT (upd H7 tt (.tup (as1.map V.ref))) tt (o.map RW) := ⟨as1, upd_same, Paired.mono hpa fun _ _ e => (same_new htt) _ _ (hole_sub _ _ e)⟩
      -- return
      refine ⟨_, rfl, _, rfl, op, _, rfl, SqL.of (s11 _ _ (s9 _ _ ho)), fun D3 hD3 => ?_⟩
      let pr : Nat → Bool := fun i => match o[i]? with
        | some c => decide (hd c ∈ en)
        | none => false
      refine lc_it walk_enum (fun i H8 => ∃ acc, LcP (upd H7 tt (.tup (as1.map V.ref))) D3 (fun i acc _ => acc = (toI ((List.range i).filter pr)).map V.int) i H8 acc) (lcP_start hD3 fun _ _ => rfl) (fun i H8 _ ⟨acc, p2⟩ => SqL.of (p2.all _ _ (s11 _ _ (s9 _ _ ho)))) ?_ ?_
      · rintro i x H8 _ hi ⟨acc, p2⟩ ⟨T1, x1, y1, rfl, hT, rfl, e1, e2⟩
        obtain ⟨z, hz, rfl⟩ := map_int_get e2
        obtain ⟨c1, hc1, rfl⟩ := toI_get hz
        obtain rfl := Option.some.inj e1
        obtain ⟨q, hq, rfl⟩ := hco c1 (List.mem_of_getElem? hc1)
        have s12 : Same H8 (upd H8 T1 (.tup [V.int (i : Nat), V.int (g q : Nat)])) := same_new hT
        have s13 : Same H5 (upd H8 T1 (.tup [V.int (i : Nat), V.int (g q : Nat)])) := s9.trans (s11.trans (p2.all.trans s12))
        refine ⟨T1, _, rfl, SqT.of upd_same, rfl, _, _, rfl, _, _, rfl, rfl, rfl, _, rfl, _, rfl, hp, _, rfl, hdG _ q (s13 _ _ hhp5) hq, _, rfl, kp, _, rfl, DGet.k (k := kI (hd (g q))) (s13 _ _ hkp5), _, rfl, ?_⟩
        rw [hq3 (hd (g q))]
        have epr : pr i = decide (hd (g q) ∈ en) := by show (match o[i]? with | some c => decide (hd c ∈ en) | none => false) = _; rw [hc1]
        by_cases d : hd (g q) ∈ en
        · rw [decide_eq_true d]
          refine iteT ⟨_, rfl, lcP_put p2 hi (by rw [ivs_len, sizeLine_eq]; omega) s12 ?_⟩
          rw [p2.is, List.range_succ, List.filter_append]
          have : pr i = true := by rw [epr, decide_eq_true d]
          simp [this, toI]
        · rw [decide_eq_false d]
          refine iteF (lcP_skip p2 s12 ?_)
          rw [p2.is, List.range_succ, List.filter_append]
          have : pr i = false := by rw [epr, decide_eq_false d]
          simp [this]
      rintro H8 ⟨acc, p2⟩
      refine ⟨D3, _, rfl, .inl ⟨SqL.of p2.at_, fun te hte => ?_⟩⟩
      have s14 : Same (upd H7 tt (.tup (as1.map V.ref))) (upd H8 te (.tup acc)) := Same.up p2.all hte
      refine ⟨by show 2 ≤ sizeLine; decide, fun tp htp => ?_⟩
      have s15 := s14.trans (same_new (o := .tup [V.ref tt, V.ref te]) htp)
      have eacc := p2.is
      rw [ivs_len] at eacc
      refine k _ tp (o.map fun c => (nextR m st (hd c)).map fun q => ixOf o (g q)) ((List.range o.length).filter pr) (sAll.trans (s9.trans (s11.trans s15))) ⟨tt, te, upd_same, ?_, ?_⟩ (least_canon hB G hh B)
      · have := hTT.mono s15
        rwa [show toR (o.map fun c => (nextR m st (hd c)).map fun q => ixOf o (g q)) = o.map RW by show (List.map _ o).map toI = _; rw [List.map_map] <;> rfl]
      · rw [← eacc]
        exact (same_new htp) _ _ upd_same
end
end K81
end
section
set_option Elab.async false
set_option maxRecDepth 100000
set_option maxHeartbeats 4000000
set_option linter.all false
/-! a != b by an own __eq__ alone; attributes as targets in a tuple. -/
namespace K81
open PySem PySem.Spec PyProof.Rows L2
section
variable {M : Model} {prog : Program} {w : World} {A : Around} {E : Value → Shared → Prop} {s : Shared} {K : PySem.W.Frag} {x y C f : Addr} {ox : Obj} {od : Option Obj}
theorem ifBound_objNe {args : List Value} {Q : Option Value → Shared → Prop} (X : K.In s.heap) (I : PySem.W.InstAt s.heap x ox C od) (hs : PySem.W.findIn K (.ref C) "__ne__" = some (some (.builtin "object.__ne__")))
    (h : wpAny M A (call (.builtin "object.__ne__") (.ref x :: args)) (fun v => Q (some v)) E s) : wpAny M A (callSpecialIfBound? (.ref x) "__ne__" args) Q E s := by
  simp only [callSpecialIfBound?, bindSpecialIfBound?]
  refine wpAny_holding (wpAny_bind (wpAny_bind (wpAny_bind (I.type.here ((PySem.W.looks_findIn X hs).here ?_)))))
  refine wpAny_bind (wpAny_askSetting (wpAny_ite ?_))
  have fin : wpAny M A (call (.builtin "object.__ne__") ([.ref x] ++ args) >>= fun v => pure (some v)) Q E s := wpAny_bind (wpAny_mono h (fun v s' h' => wpAny_pure h') fun _ _ h' => h')
  split
  · exact wpAny_bind (wpAny_of_eq (F.cmp_object.ne.bind _) (wpAny_pure (by exact fin)))
  · exact wpAny_tryCatch (wpAny_bind (wpAny_of_eq (F.cmp_object.ne.bind _) (wpAny_pure (by exact fin))))
theorem entry_objNe {Q : Fin → Shared → Prop} (hu : A.units < cLine) (X : K.In s.heap) (I : PySem.W.InstAt s.heap x ox C od) (hs : PySem.W.findIn K (.ref C) "__eq__" = some (some (.ref f))) (hf : PySem.W.isFn K (.ref f) = true)
    (h : wpAny (model prog w) A (call (.ref f) [.ref x, .ref y]) (fun v s' => ∃ b, v = .bool b ∧ Q (.done (.ret (.bool (!b)))) s') E s) : wpAny (model prog w) A (Builtin.«object.__ne__» ⟨[.ref x, .ref y], []⟩) Q E s := by
  obtain ⟨hp, g, d, t, os⟩ := s
  unfold Builtin.«object.__ne__»
  repeat (first
    | with_reducible refine wpAny_cRoomFor hu ?_
    | (refine wpAny_bind (m := callSpecialIfBound? (.ref x) (Str.ofString "__eq__") [.ref y])
        (PySem.W.ifBound_K X I hs hf (wpAny_mono h (fun r s' hr => by
          obtain ⟨b, rfl, hq⟩ := hr
          repeat (first | exact hq | exact wpAny_pure hq | exact wpAny_truthy_bool hq | (refine wpAny_bind (m := truthy (.bool _)) (wpAny_truthy_bool ?_)) | wp_step)) fun _ _ e => e)))
    | wp_step)
theorem rcNe_K {Q : Value → Shared → Prop} (hu : A.units + 1 < cLine) (X : K.In s.heap) (I : PySem.W.InstAt s.heap x ox C od) (hb : PySem.W.Looks (model prog w) s.heap (typeOf (.ref y)) (.ref C)) (hm : PySem.W.mroIn K C (.type "object") = some true)
    (hne : PySem.W.findIn K (.ref C) "__ne__" = some (some (.builtin "object.__ne__"))) (hs : PySem.W.findIn K (.ref C) "__eq__" = some (some (.ref f))) (hf : PySem.W.isFn K (.ref f) = true)
    (h : wpAny (model prog w) A.in1 (call (.ref f) [.ref x, .ref y]) (fun v s' => ∃ b, v = .bool b ∧ Q (.bool (!b)) s') E s) : wpAny (model prog w) A (richCompare .NotEq (.ref x) (.ref y)) Q E s := by
  unfold richCompare
  simp only [oneThing_ref]
  refine wpAny_holding (wpAny_bind (wpAny_cRoomFor (Nat.lt_of_succ_lt hu) ?_))
  rw [cmpInfo_NotEq]
  dsimp only
  refine wpAny_bind (I.type.here (wpAny_bind (hb.here ?_)))
  rw [show (Value.ref C != Value.ref C) = false from by simp]
  simp only [Bool.false_eq_true, if_false]
  refine wpAny_bind (wpAny_pure ?_)
  simp only [Bool.false_eq_true, if_false]
  have one : wpAny (model prog w) A (tryCompare (.ref x) "__ne__" (.ref y)) (fun r s' => ∃ b, r = some (.bool (!b)) ∧ Q (.bool (!b)) s') E s := by
    unfold tryCompare
    refine wpAny_bind (ifBound_objNe X I hne (wpAny_call (codeAny_call_builtin F.cmp_object.ne.plain F.cmpEntry_ne (PySem.W.check_slot F.cmpKind_ne F.cmpSplit_ne (I.type.andThen (PySem.W.looks_mroIn X hm)) (F.cmpArgs_ne _ _)
      (entry_objNe (A := A.in1) hu X I hs hf (wpAny_mono h (fun v s' hv => ?_) fun _ _ e => e))))))
    obtain ⟨b, rfl, hq⟩ := hv
    exact ⟨b, rfl, wpAny_pure ⟨b, rfl, hq⟩⟩
  refine wpAny_bind (wpAny_mono one (fun r s' z => ?_) fun _ _ e => e)
  obtain ⟨b, rfl, hq⟩ := z
  exact wpAny_pure hq
end
/-- what != asks besides -/
structure NeC (K : PySem.W.Frag) (C : Addr) : Prop where
  hm : PySem.W.mroIn K C (.type "object") = some true
  ne : PySem.W.findIn K (.ref C) "__ne__" = some (some (.builtin "object.__ne__"))
/-- an own == that answers -/
def spEqB (R : Addr → Addr → Hp → Prop) : Sp := fun vs H Q _ => ∃ a b, vs = [.ref a, .ref b] ∧ R a b H ∧ ∀ H', Same H H' → Q (.bl true) H'
section
variable {X : Cx} {n : Nat}
def rNeG (C : Addr) (R : Addr → Addr → Hp → Prop) : R2 := fun x y H Q => ∃ a b dx dy fs gs, x = .ref a ∧ y = .ref b ∧ H a = some (.ins C dx fs) ∧ H b = some (.ins C dy gs) ∧ R a b H ∧ ∀ H', Same H H' → Q (.bl false) H'
theorem op_neG {C f : Addr} {fd : FuncData} {ps : List Str} {R : Addr → Addr → Hp → Prop} (F : FnOk X.prog X.w X.K X.mg X.base CX0 n f fd ps (spEqB R)) (N : NeC X.K C)
    (hs : PySem.W.findIn X.K (.ref C) "__eq__" = some (some (.ref f))) (hf : PySem.W.isFn X.K (.ref f) = true) (hb : Binds X.K fd ps []) (hr : Room (n + 1) X.A) : OpR X (compareOp .NotEq) (rNeG C R) := by
  intro pins s σ H x y v u Q I rx ry hq
  obtain ⟨a, b, dx, dy, fs, gs, rfl, rfl, ha, hb', hR, q⟩ := hq
  cases rx
  cases ry
  show wpAny (model X.prog X.w) X.A (richCompare .NotEq (.ref a) (.ref b)) (EP X pins σ Q) X.xe s
  obtain ⟨mA, J, _⟩ := ins_get I.hok ha
  obtain ⟨mB, J', _⟩ := ins_get I.hok hb'
  obtain ⟨od, J, _⟩ := J.look
  obtain ⟨od', J', _⟩ := J'.look
  refine rcNe_K (hu_of hr) I.kIn J J'.type N.hm N.ne hs hf ?_
  have hsp : spEqB R [.ref a, .ref b] H (fun v H' => v = .bl true ∧ Same H H') E0 := ⟨a, b, rfl, hR, fun H' e => ⟨rfl, e⟩⟩
  have hl := F.len _ _ _ _ hsp
  have r2 : Vals [V.ref a, V.ref b] [Value.ref a, Value.ref b] := .cons rfl (.cons rfl .nil)
  have e0 : Env0 X.prog X.w X.K X.mg X.base X.A.in1 X.stack s H := by
    have e := I.env0
    exact ⟨by show X.A.frames = _; exact e.frames, e.mod, e.bs, e.bsz, e.funs, e.frf, e.hok, e.bare⟩
  refine wpAny_call (codeAny_mono (F.run X.A.in1 X.stack s H ⟨[.ref a, .ref b], []⟩ [.ref a, .ref b] [.ref a, .ref b] _ E0 hr.in1 e0 (by
    have := hb s [.ref a, .ref b] I.kIn (by simpa using hl)
    simpa using this) r2 hsp) fun r s' hq => ?_)
  cases r with
  | error e => exact pass0 pins σ H s e s' I hq
  | ok fl =>
    cases fl with
    | ret w =>
      obtain ⟨z, H', I', rz, ez, ex⟩ := I.after hq
      subst ez
      cases rz
      exact ⟨true, rfl, .bl false, H', I', rfl, q H' ex⟩
    | next => exact False.elim hq
    | brk => exact False.elim hq
    | cont => exact False.elim hq
/-- an attribute as a target -/
def gFld (K : PySem.W.Frag) (to : TE) (f : Str) : TG := fun v σ H Q => to σ H fun x H1 => ∃ a C dx fs, x = .ref a ∧ H1 a = some (.ins C dx fs) ∧ Cls K C ∧ NoAttr K C f ∧ fs.length < 1000 ∧ Q σ (upd H1 a (.ins C dx (putF f v fs)))
theorem pg_fld {o : Expr} {f : Str} {to : TE} {pos : Pos} (ho : PE X o to) : PG X (.Attribute o f pos) (gFld X.K to f) := by
  refine ⟨fun pins s σ H v u Q I r h => ?_⟩
  rw [PySem.assign_Attribute]
  refine wpAny_bind (wpAny_holding (thn (ho.run pins s σ H _ I h) fun ov s1 ⟨x, H1, I1, r1, a, C, dx, fs, ex, ea, c, n, l, q1⟩ => ?_))
  subst ex
  obtain rfl : ov = Value.ref a := r1
  refine wpAny_bind (wpAny_standAt (wpAny_bind (wpAny_holding (setattr_ok I1 ea c n l r fun s3 I3 => ?_))))
  exact wpAny_release ⟨σ, _, I3, q1⟩
end
end K81
end
section
set_option Elab.async false
set_option maxRecDepth 100000
set_option maxHeartbeats 4000000
set_option linter.all false
set_option pp.maxSteps 1500
set_option pp.deepTerms false
/-! words: is_word_of, want_word, spots -/
namespace K81
open PySem PySem.Spec PyProof.Rows L2 K81M
/-- a word's text -/
def wS (u : List Nat) : Str := ⟨(u.map fun l => 97 + l).toArray⟩
theorem wS_size (u : List Nat) : (wS u).cps.size = u.length := by unfold wS; simp
theorem wS_len (u : List Nat) : (wS u).length = u.length := wS_size u
theorem wS_get {u : List Nat} {i c : Nat} (h : (wS u).cps[i]? = some c) : ∃ l, u[i]? = some l ∧ c = 97 + l := by
  unfold wS at h
  rw [List.getElem?_toArray, List.getElem?_map] at h
  cases e : u[i]? with
  | none => rw [e] at h; cases h
  | some l => rw [e] at h; exact ⟨l, rfl, (Option.some.inj h).symm⟩
theorem cut_in {m l : Nat} (h1 : 1 ≤ m) (h3 : m ≤ 3) (hl : l < m) : (97 + l) ∈ (cutS "abc" none (some (m : Int))).cps.toList := by
  have : m = 1 ∨ m = 2 ∨ m = 3 := by omega
  rcases this with rfl | rfl | rfl
  · have : l = 0 := by omega
    subst this; decide +kernel
  · have : l = 0 ∨ l = 1 := by omega
    rcases this with rfl | rfl <;> decide +kernel
  · have : l = 0 ∨ l = 1 ∨ l = 2 := by omega
    rcases this with rfl | rfl | rfl <;> decide +kernel
theorem abc_index {l : Nat} (hl : l < 3) : ∃ rest, Builtin.Str.occurrences "abc" ⟨#[97 + l]⟩ 0 (Str.length "abc") 1 = l :: rest := by
  have : l = 0 ∨ l = 1 ∨ l = 2 := by omega
  rcases this with rfl | rfl | rfl
  · exact ⟨[], by decide +kernel⟩
  · exact ⟨[], by decide +kernel⟩
  · exact ⟨[], by decide +kernel⟩
section
variable {P : Program} {w : World} {K : PySem.W.Frag} {mg : Str → Option Value} {base : Heap}
/-- a word over m letters, not too long -/
structure Wd (m : Nat) (u : List Nat) : Prop where
  m1 : 1 ≤ m
  m3 : m ≤ 3
  all : ∀ l ∈ u, l < m
  few : u.length ≤ 60
def spIsWordOf : Sp := fun vs H Q _ => ∃ (m : Nat) (u : List Nat), vs = [.int (m : Int), .str (wS u)] ∧ Wd m u ∧ ∀ H', Same H H' → Q (.bl true) H'
theorem scIsWordOf : FnScope ["letters", "value", "sign"] ["letters", "value"] (defScope sIsWordOf) := ⟨rfl, rfl, rfl, by decide +kernel, rfl, by decide +kernel, by decide +kernel⟩
theorem c_is_word_of (T : Txt K mg) : Cal P w K mg base 1 "is_word_of" ["letters", "value"] spIsWordOf := by
  refine cal sIsWordOf T 5 5 rfl rfl scIsWordOf (fun _ _ _ _ _ _ us hl => match us, hl with | [_, _], _ => rfl) (fun vs H Q E h => ?_) (fun cdv A outer s H vs Q E hr h => ?_)
  · obtain ⟨m, u, rfl, _⟩ := h
    rfl
  · obtain ⟨m, u, rfl, W, k⟩ := h
    have nd := scIsWordOf.nd
    refine ⟨_, pss_cons (ps_if (PW.pt (pw_or (pt_not (pt_val (pe_callB call_isi (by rfl) (T.f 7 rfl) boot_isinstance (pa_cons (pv 1) (pa_cons (pe_ty (T.f 6 rfl) boot_str) pa_nil))))) (pw_or1 (pt_cmpR op_gt (pe_callB call_len_str (by rfl) (T.f 0 rfl) boot_len (pa_cons (pv 1) pa_nil)) (pe_gint T.i60) (nomark _))))) (pss_one ps_never) pss_nil)
      (pss_one (ps_ret (pe_callB (cr_all rfl) (by rfl) (T.f 9 rfl) boot_all (pa_cons (pe_lc (own := [("sign", 2)]) (g := gName 2) (tt := tYes) rfl nd (pi_str (pv 1)) (blkOk_by (N := ["letters", "value", "sign"]) (sc := defScope sIsWordOf) (by decide +kernel)) (fun _ _ _ _ _ => pg_name (i := 2) nd rfl (Or.inl rfl)) (fun _ _ _ _ _ => pts_nil)
        (fun _ _ _ _ _ => pe_cmpR op_in_sign (pv 2) (pe_slice sl_str (pe_gstr T.signs) po_none (po_some (pv 0))) (by rfl))) pa_nil)))), ?_⟩
    refine ⟨_, rfl, _, _, _, _, true, rfl, .ty "str", .base (.str _), kit_ty (by decide +kernel), _, rfl, ?_⟩
    refine iteF ⟨_, rfl, _, rfl, by rw [wS_len, sizeLine_eq]; have := W.few; omega, _, _, rfl, rfl, _, rfl, ?_⟩
    rw [wS_len, decide_eq_false (show ¬ (60 : Int) < (u.length : Int) by have := W.few; omega)]
    refine iteF ⟨_, rfl, _, rfl, fun D hD => ?_⟩
    refine lc_it walk_str (fun i H4 => ∃ acc, LcP H D (fun i acc _ => acc = (List.replicate i true).map V.bl) i H4 acc) (lcP_start hD fun _ _ => rfl) (fun _ _ _ _ => trivial) ?_ ?_
    · rintro i x H4 _ hi ⟨acc, p⟩ ⟨rfl, c, hc, rfl⟩
      obtain ⟨l, hl, rfl⟩ := wS_get hc
      rw [wS_size] at hi
      have hlm : l < m := W.all l (List.mem_of_getElem? hl)
      refine ⟨rfl, yesT ⟨_, rfl, _, rfl, _, rfl, _, rfl, by decide, 97 + l, _, rfl, rfl, ?_⟩⟩
      rw [decide_eq_true (cut_in W.m1 W.m3 hlm)]
      refine lcP_put p hi (by rw [sizeLine_eq]; have := W.few; omega) (Same.refl _) ?_
      rw [p.is, List.replicate_succ', List.map_append] <;> rfl
    · rintro H4 ⟨acc, p⟩
      refine ⟨D, _, rfl, SqL.of (by rw [p.at_, p.is]), ?_⟩
      have e : (List.replicate (wS u).cps.size true).all id = true := by
        rw [List.all_eq_true]
        intro x hx
        exact (List.mem_replicate.mp hx).2
      rw [e]
      exact k _ (Same.trans (Same.refl _) p.all)
/-! ### want_word -/
def spWantWord : Sp := fun vs H Q _ => ∃ (m : Nat) (u : List Nat), vs = [.int (m : Int), .str (wS u)] ∧ Wd m u ∧ ∀ H', Same H H' → Q (.str (wS u)) H'
theorem scWantWord : FnScope ["letters", "value"] ["letters", "value"] (defScope sWantWord) := ⟨rfl, rfl, rfl, by decide +kernel, rfl, by decide +kernel, by decide +kernel⟩
theorem c_want_word (T : Txt K mg) : Cal P w K mg base 2 "want_word" ["letters", "value"] spWantWord := by
  refine cal sWantWord T 6 6 rfl rfl scWantWord (fun _ _ _ _ _ _ us hl => match us, hl with | [_, _], _ => rfl) (fun vs H Q E h => ?_) (fun cdv A outer s H vs Q E hr h => ?_)
  · obtain ⟨m, u, rfl, _⟩ := h
    rfl
  · obtain ⟨m, u, rfl, W, k⟩ := h
    refine ⟨_, pss_cons (ps_if (pt_not (pt_val (pe_c (c_is_word_of T) hr (by decide) (pa_cons (pv 0) (pa_cons (pv 1) pa_nil))))) (pss_one ps_never) pss_nil) (pss_one (ps_ret (pv 1))), ?_⟩
    exact ⟨_, rfl, _, rfl, m, u, rfl, W, fun H' e => ⟨true, rfl, iteF ⟨_, rfl, k H' e⟩⟩⟩
/-! ### spots -/
def spSpots : Sp := fun vs H Q _ => ∃ (u : List Nat), vs = [.str (wS u)] ∧ (∀ l ∈ u, l < 3) ∧ u.length ≤ 60 ∧ ∀ H' p, Same H H' → H p = none → H' p = some (.tup ((toI u).map V.int)) → Q (.ref p) H'
theorem scSpots : FnScope ["word", "sign"] ["word"] (defScope sSpots) := ⟨rfl, rfl, rfl, by decide +kernel, rfl, by decide +kernel, by decide +kernel⟩
theorem c_spots (T : Txt K mg) : Cal P w K mg base 1 "spots" ["word"] spSpots := by
  refine cal sSpots T 7 7 rfl rfl scSpots (fun _ _ _ _ _ _ us hl => match us, hl with | [_], _ => rfl) (fun vs H Q E h => ?_) (fun cdv A outer s H vs Q E hr h => ?_)
  · obtain ⟨u, rfl, _⟩ := h
    rfl
  · obtain ⟨u, rfl, all, few, k⟩ := h
    have nd := scSpots.nd
    refine ⟨_, pss_one (ps_ret (pe_callTy call_tuple_of (by rfl) (T.f 8 rfl) boot_tuple (pa_cons (pe_lc (own := [("sign", 1)]) (g := gName 1) (tt := tYes) rfl nd (pi_str (pv 0)) (blkOk_by (N := ["word", "sign"]) (sc := defScope sSpots) (by decide +kernel)) (fun _ _ _ _ _ => pg_name (i := 1) nd rfl (Or.inl rfl)) (fun _ _ _ _ _ => pts_nil)
        (fun _ _ _ _ _ => pe_bmk (K := K) rfl PySem.F.plainAttrs_str PySem.F.slot_str_index PySem.F.type_str_index mt_sindex (pe_gstr T.signs) (pa_cons (pv 1) pa_nil))) pa_nil))), ?_⟩
    refine ⟨_, rfl, _, rfl, fun D hD => ?_⟩
    refine lc_it walk_str (fun i H4 => ∃ acc, LcP H D (fun i acc _ => acc = (toI (u.take i)).map V.int) i H4 acc) (lcP_start hD fun _ _ => rfl) (fun _ _ _ _ => trivial) ?_ ?_
    · rintro i x H4 _ hi ⟨acc, p⟩ ⟨rfl, c, hc, rfl⟩
      obtain ⟨l, hl, rfl⟩ := wS_get hc
      rw [wS_size] at hi
      obtain ⟨rest, hrest⟩ := abc_index (all l (List.mem_of_getElem? hl))
      refine ⟨rfl, yesT ⟨rfl, _, rfl, _, _, l, rest, rfl, rfl, hrest, ?_⟩⟩
      refine lcP_put p hi (by rw [sizeLine_eq]; omega) (Same.refl _) ?_
      rw [p.is, List.take_add_one, hl]
      simp [toI]
    · rintro H4 ⟨acc, p⟩
      have e := p.is
      rw [wS_size, List.take_length] at e
      refine ⟨D, _, rfl, .inl ⟨SqL.of p.at_, fun t ht => ?_⟩⟩
      exact k _ t (Same.up p.all ht) (Same.none p.all ht) (by rw [upd_same, e])
end
end K81
end
section
set_option Elab.async false
set_option maxRecDepth 100000
set_option maxHeartbeats 4000000
set_option linter.all false
set_option pp.maxSteps 1500
set_option pp.deepTerms false
/-! machines: are_steps, are_ends, Machine(..), least, lets -/
namespace K81
open PySem PySem.Spec PyProof.Rows L2 K81M
section
variable {P : Program} {w : World} {K : PySem.W.Frag} {mg : Str → Option Value} {base : Heap}
/-! ### are_steps -/
def spAreSteps (K : PySem.W.Frag) : Sp := fun vs H Q _ => ∃ (m : Nat) (a : Addr) (st : List (List Nat)), vs = [.int (m : Int), .ref a] ∧ Rows K H a (toR st) ∧ Sts m st ∧ st.length ≤ 12 ∧ ∀ H', Same H H' → Q (.bl true) H'
theorem scAreSteps : FnScope ["letters", "value", "row", "state"] ["letters", "value"] (defScope sAreSteps) := ⟨rfl, rfl, rfl, by decide +kernel, rfl, by decide +kernel, by decide +kernel⟩
theorem c_are_steps (T : Txt K mg) : Cal P w K mg base 3 "are_steps" ["letters", "value"] (spAreSteps K) := by
  refine cal sAreSteps T 8 8 rfl rfl scAreSteps (fun _ _ _ _ _ _ us hl => match us, hl with | [_, _], _ => rfl) (fun vs H Q E h => ?_) (fun cdv A outer s H vs Q E hr h => ?_)
  · obtain ⟨m, a, st, rfl, _⟩ := h
    rfl
  · obtain ⟨m, a, st, rfl, hR, hst, h12, k⟩ := h
    have nd := scAreSteps.nd
    refine ⟨_, pss_cons (ps_if (PW.pt (pw_or (pt_not (pt_val (pe_c (c_is_list T) hr (by decide) (pa_cons (pv 1) pa_nil)))) (pw_or1 (pt_not (pt_chain op_le op_le pe_int (pe_callB call_len_seq (by rfl) (T.f 0 rfl) boot_len (pa_cons (pv 1) pa_nil)) (pe_gint T.i12)))))) (pss_one ps_never) pss_nil)
      (pss_cons (ps_for PassesOwn.never rfl (pi_sq (pv 1)) (pg_name (i := 2) nd rfl (Or.inl rfl))
        (pss_cons (ps_if (PW.pt (pw_or (pt_not (pt_val (pe_c (c_is_list T) hr (by decide) (pa_cons (pv 2) pa_nil)))) (pw_or1 (pt_cmpR op_ne (pe_callB call_len_seq (by rfl) (T.f 0 rfl) boot_len (pa_cons (pv 2) pa_nil)) (pv 0) (nomark _))))) (pss_one ps_never) pss_nil)
        (pss_one (ps_if (pt_not (pt_val (pe_callB (cr_all rfl) (by rfl) (T.f 9 rfl) boot_all (pa_cons (pe_lc (own := [("state", 3)]) (g := gName 3) (tt := tYes) rfl nd (pi_sq (pv 2)) (blkOk_by (N := ["letters", "value", "row", "state"]) (sc := defScope sAreSteps) (by decide +kernel)) (fun _ _ _ _ _ => pg_name (i := 3) nd rfl (Or.inl rfl)) (fun _ _ _ _ _ => pts_nil)
          (fun _ _ _ _ _ => pe_and (pe_c (c_is_count T) hr (by decide) (pa_cons (pv 3) pa_nil)) (pe_one (pe_cmpR op_lt (pv 3) (pe_callB (call_len_seqk (K := K) rfl) (by rfl) (T.f 0 rfl) boot_len (pa_cons (pv 1) pa_nil)) (nomark _))))) pa_nil)))) (pss_one ps_never) pss_nil))))
      (pss_one (ps_ret pe_bl))), ?_⟩
    obtain ⟨as, hA, hP⟩ := hR
    have lenA : as.length = st.length := by rw [Paired.len hP, List.length_map]
    have pos := hst.pos
    refine ⟨_, rfl, a, _, rfl, hA, fun H1 s1 => ⟨true, rfl, ?_⟩⟩
    refine iteF ⟨_, rfl, a, _, rfl, hA.mono s1, _, _, rfl, rfl, true, vbT (by rw [List.length_map, lenA]; omega), ?_⟩
    refine iteT ⟨_, _, rfl, rfl, true, vbT (by rw [List.length_map, lenA]; omega), ?_⟩
    refine iteF ⟨_, rfl, a, _, H1, rfl, hA.mono s1, fun o e => e, fun J wJ => ?_⟩
    refine for_it wJ (fun i σ' H2 => ∃ v, σ' = [some (.int (m : Int)), some (.ref a), v, none] ∧ Same H1 H2) ⟨none, rfl, Same.refl _⟩ (fun i σ' H2 _ ⟨_, _, s2⟩ => fun o e => s2 _ _ e) ?_ ?_
    · rintro i x σ' _ H2 hi ⟨v, rfl, s2⟩ ⟨rfl, hx⟩
      obtain ⟨b, hb, rfl⟩ := map_ref_get hx
      obtain ⟨r, hr2, hr3⟩ := Paired.get hP hb
      rw [List.getElem?_map] at hr2
      obtain ⟨row, hrow, rfl⟩ := Option.map_eq_some_iff.mp hr2
      have s3 : Same H H2 := s1.trans s2
      have rlen : row.length = m := (hst.row _ (List.mem_of_getElem? hrow)).1
      refine ⟨_, rfl, b, _, rfl, hr3.mono s3, fun H3 s4 => ⟨true, rfl, ?_⟩⟩
      refine iteF ⟨_, rfl, b, _, rfl, hr3.mono (s3.trans s4), _, rfl, rfl, _, rfl, ?_⟩
      rw [ivs_len, rlen]
      have ec : (!decide (V.int (m : Int) = V.int (m : Int))) = false := by simp
      rw [ec]
      refine iteF ⟨_, rfl, b, _, H3, rfl, hr3.mono (s3.trans s4), fun o e => e, fun J2 wJ2 D hD => ?_⟩
      refine lc_it wJ2 (fun j H4 => ∃ acc, LcP H3 D (fun j acc _ => acc = (List.replicate j true).map V.bl) j H4 acc) (lcP_start hD fun _ _ => rfl) (fun j H4 _ ⟨acc, p⟩ => fun o e => p.all _ _ e) ?_ ?_
      · rintro j x H4 _ hj ⟨acc, p⟩ ⟨rfl, hx2⟩
        obtain ⟨z, hz, rfl⟩ := map_int_get hx2
        obtain ⟨q, hq, rfl⟩ := toI_get hz
        have hqs : q < st.length := (hst.row _ (List.mem_of_getElem? hrow)).2 q (List.mem_of_getElem? hq)
        refine ⟨rfl, yesT ⟨_, rfl, _, rfl, ?_⟩⟩
        rw [decide_eq_true (show (0 : Int) ≤ (q : Int) by omega)]
        refine ⟨true, rfl, iteT ⟨_, rfl, _, rfl, a, _, rfl, hA.mono (s3.trans (s4.trans p.all)), _, _, rfl, rfl, ?_⟩⟩
        dsimp only
        rw [List.length_map, lenA, decide_eq_true (show (q : Int) < (st.length : Int) by omega)]
        refine lcP_put p hj (by rw [ivs_len, rlen, sizeLine_eq]; have := hst.let_; omega) (Same.refl _) ?_
        rw [p.is, List.replicate_succ', List.map_append] <;> rfl
      · rintro H4 ⟨acc, p⟩
        refine ⟨D, _, rfl, SqL.of (by rw [p.at_, p.is]), _, rfl, ?_⟩
        have e : (List.replicate ((toI row).map V.int).length true).all id = true := by
          rw [List.all_eq_true]
          intro x hx
          exact (List.mem_replicate.mp hx).2
        rw [e]
        exact iteF ⟨_, rfl, s2.trans (s4.trans p.all)⟩
    · rintro σ' H2 ⟨v, rfl, s2⟩
      exact k _ (s1.trans s2)
/-! ### are_ends -/
def spAreEnds (K : PySem.W.Frag) : Sp := fun vs H Q _ => ∃ (n : Nat) (ea : Addr) (en : List Nat), vs = [.int (n : Int), .ref ea] ∧ SqL K H ea ((toI en).map V.int) ∧ en.Nodup ∧ en.length ≤ 1000 ∧ (∀ q ∈ en, q < n) ∧ ∀ H', Same H H' → Q (.bl true) H'
theorem scAreEnds : FnScope ["states", "value", "state"] ["states", "value"] (defScope sAreEnds) := ⟨rfl, rfl, rfl, by decide +kernel, rfl, by decide +kernel, by decide +kernel⟩
theorem nodup_toI {l : List Nat} (h : l.Nodup) : (toI l).Nodup := List.Pairwise.map _ (fun a b hab z => hab (by omega)) h
theorem c_are_ends (T : Txt K mg) : Cal P w K mg base 3 "are_ends" ["states", "value"] (spAreEnds K) := by
  refine cal sAreEnds T 9 9 rfl rfl scAreEnds (fun _ _ _ _ _ _ us hl => match us, hl with | [_, _], _ => rfl) (fun vs H Q E h => ?_) (fun cdv A outer s H vs Q E hr h => ?_)
  · obtain ⟨n, ea, en, rfl, _⟩ := h
    rfl
  · obtain ⟨n, ea, en, rfl, hE, nde, few, hl, k⟩ := h
    have nd := scAreEnds.nd
    refine ⟨_, pss_cons (ps_if (PW.pt (pw_or (pt_not (pt_val (pe_c (c_is_list T) hr (by decide) (pa_cons (pv 1) pa_nil)))) (pw_or1 (pt_not (pt_val (pe_callB (cr_all rfl) (by rfl) (T.f 9 rfl) boot_all (pa_cons (pe_lc (own := [("state", 2)]) (g := gName 2) (tt := tYes) rfl nd (pi_sq (pv 1)) (blkOk_by (N := ["states", "value", "state"]) (sc := defScope sAreEnds) (by decide +kernel)) (fun _ _ _ _ _ => pg_name (i := 2) nd rfl (Or.inl rfl)) (fun _ _ _ _ _ => pts_nil)
          (fun _ _ _ _ _ => pe_and (pe_c (c_is_count T) hr (by decide) (pa_cons (pv 2) pa_nil)) (pe_one (pe_cmpR op_lt (pv 2) (pv 0) (nomark _))))) pa_nil))))))) (pss_one ps_never) pss_nil)
      (pss_one (ps_ret (pe_cmpR op_eq (pe_callB call_len_seq (by rfl) (T.f 0 rfl) boot_len (pa_cons (pe_callB (cr_sortedG (ZI P w) rfl hr.units) (by rfl) (T.f 1 rfl) boot_sorted (pa_cons (pe_callTy (cr_setL (ZI P w) rfl) (by rfl) (T.f 2 rfl) boot_set (pa_cons (pv 1) pa_nil)) pa_nil)) pa_nil))
        (pe_callB call_len_seq (by rfl) (T.f 0 rfl) boot_len (pa_cons (pv 1) pa_nil)) (nomark _)))), ?_⟩
    refine ⟨_, rfl, ea, _, rfl, .inl hE, fun H1 s1 => ⟨true, rfl, ?_⟩⟩
    refine iteF ⟨_, rfl, ea, _, H1, rfl, .inl (s1.seq hE), fun o e => e, fun J wJ D hD => ?_⟩
    refine lc_it wJ (fun j H4 => ∃ acc, LcP H1 D (fun j acc _ => acc = (List.replicate j true).map V.bl) j H4 acc) (lcP_start hD fun _ _ => rfl) (fun j H4 _ ⟨acc, p⟩ => fun o e => p.all _ _ e) ?_ ?_
    · rintro j x H4 _ hj ⟨acc, p⟩ ⟨rfl, hx2⟩
      obtain ⟨z, hz, rfl⟩ := map_int_get hx2
      obtain ⟨q, hq, rfl⟩ := toI_get hz
      have hqs : q < n := hl q (List.mem_of_getElem? hq)
      refine ⟨rfl, yesT ⟨_, rfl, _, rfl, ?_⟩⟩
      rw [decide_eq_true (show (0 : Int) ≤ (q : Int) by omega)]
      refine ⟨true, rfl, iteT ⟨_, rfl, _, rfl, _, _, rfl, rfl, ?_⟩⟩
      dsimp only
      rw [decide_eq_true (show (q : Int) < (n : Int) by omega)]
      refine lcP_put p hj (by rw [ivs_len, sizeLine_eq]; omega) (Same.refl _) ?_
      rw [p.is, List.replicate_succ', List.map_append] <;> rfl
    · rintro H4 ⟨acc, p⟩
      refine ⟨D, _, rfl, SqL.of (by rw [p.at_, p.is]), _, rfl, ?_⟩
      have e : (List.replicate ((toI en).map V.int).length true).all id = true := by
        rw [List.all_eq_true]
        intro x hx
        exact (List.mem_replicate.mp hx).2
      rw [e]
      have s2 := s1.trans p.all
      refine iteF ⟨_, rfl, ea, toI en, rfl, s2.seq hE, ⟨toI en, fun k hk => hk, by rw [List.length_map]; omega⟩, fun q3 hq3 => ⟨q3, _, rfl, upd_same, fun q4 ks hq4 ndk hks => ⟨q4, _, rfl, .inl (SqL.of upd_same), ?_⟩⟩⟩
      have s3 : Same H (upd (upd H4 q3 (SetGO (ZI P w) q3 (toI en))) q4 (.lst (ks.map (ZI P w).tv))) := Same.up (Same.up s2 hq3) hq4
      refine ⟨_, rfl, ea, _, rfl, .inl (s3.seq hE), rfl, ?_⟩
      have el : ks.length = en.length := by
        have h1 := nodup_le ndk (U := toI en) fun x hx => (hks x).mp hx
        have h2 := nodup_le (nodup_toI nde) (U := ks) fun x hx => (hks x).mpr hx
        rw [List.length_map] at h1 h2
        omega
      rw [List.length_map, ivs_len, el, decide_eq_true rfl]
      exact k _ s3
end
end K81
end
section
set_option Elab.async false
set_option maxRecDepth 100000
set_option maxHeartbeats 4000000
set_option linter.all false
set_option pp.maxSteps 1500
set_option pp.deepTerms false
/-! Machine(..), least, want_machine, led, is_end, is_let, lets, == -/
namespace K81
open PySem PySem.Spec PyProof.Rows L2 K81M
/-- a new instance changes: what is not an instance stands -/
theorem sq_ins {K : PySem.W.Frag} {H : Hp} {x C dx a : Addr} {fs : List (Str × V)} {o : HO} {xs : List V} (hx : H x = some (.ins C dx fs)) (h : Sq K H a xs) : Sq K (upd H x o) a xs := by
  have go : ∀ p u, H p = some u → (∀ C dx fs, u ≠ .ins C dx fs) → upd H x o p = some u := fun p u e n => by
    rw [upd_ne (fun z => by rw [z, hx] at e; exact n _ _ _ (Option.some.inj e).symm)]
    exact e
  rcases h with ((h | ⟨o', h⟩) | h) | ((h | ⟨o', h⟩) | h)
  · exact .inl (.inl (.inl (go _ _ h fun _ _ _ z => nomatch z)))
  · exact .inl (.inl (.inr ⟨o', go _ _ h fun _ _ _ z => nomatch z⟩))
  · exact .inl (.inr h)
  · exact .inr (.inl (.inl (go _ _ h fun _ _ _ z => nomatch z)))
  · exact .inr (.inl (.inr ⟨o', go _ _ h fun _ _ _ z => nomatch z⟩))
  · exact .inr (.inr h)
theorem rows_ins {K : PySem.W.Frag} {H : Hp} {x C dx a : Addr} {fs : List (Str × V)} {o : HO} {rows : List (List Int)} (hx : H x = some (.ins C dx fs)) (h : Rows K H a rows) : Rows K (upd H x o) a rows :=
  let ⟨as, h1, h2⟩ := h; ⟨as, sq_ins hx h1, Paired.mono h2 fun _ _ q => sq_ins hx q⟩
theorem tt_ins {H : Hp} {x C dx a : Addr} {fs : List (Str × V)} {o : HO} {rows : List (List Int)} (hx : H x = some (.ins C dx fs)) (h : TT H a rows) : TT (upd H x o) a rows := by
  obtain ⟨as, h1, h2⟩ := h
  exact ⟨as, by rw [upd_ne (ne_of h1 hx (fun z => nomatch z))]; exact h1, Paired.mono h2 fun b r q => by rw [upd_ne (ne_of q hx (fun z => nomatch z))]; exact q⟩
section
variable {P : Program} {w : World} {K : PySem.W.Frag} {mg : Str → Option Value} {base : Heap}
/-- a machine stands at a -/
def MachD (K : PySem.W.Frag) (H : Hp) (a dx : Addr) (m : Nat) (st : List (List Nat)) (en : List Nat) : Prop := ∃ tt te, H a = some (.ins (mC K) dx [("own_letters", .int (m : Int)), ("own_steps", .ref tt), ("own_ends", .ref te)]) ∧ TT H tt (toR st) ∧ H te = some (.tup ((toI en).map V.int))
def Mach (K : PySem.W.Frag) (H : Hp) (a : Addr) (m : Nat) (st : List (List Nat)) (en : List Nat) : Prop := ∃ dx, MachD K H a dx m st en
theorem Mach.mono {H H' : Hp} {a : Addr} {m : Nat} {st : List (List Nat)} {en : List Nat} (h : Mach K H a m st en) (e : Same H H') : Mach K H' a m st en :=
  let ⟨dx, tt, te, h1, h2, h3⟩ := h; ⟨dx, tt, te, e _ _ h1, h2.mono e, e _ _ h3⟩
/-- all but x stands -/
def But (x : Addr) (H H' : Hp) : Prop := ∀ p o, p ≠ x → H p = some o → H' p = some o
def spMInit (K : PySem.W.Frag) : Sp := fun vs H Q _ => ∃ (x dx a ea : Addr) (m : Nat) (st : List (List Nat)) (en : List Nat), vs = [.ref x, .int (m : Int), .ref a, .ref ea] ∧ H x = some (.ins (mC K) dx []) ∧ Rows K H a (toR st) ∧ Sts m st ∧ 1 ≤ m ∧ st.length ≤ 12 ∧
  SqL K H ea ((toI en).map V.int) ∧ en.Nodup ∧ (∀ q ∈ en, q < st.length) ∧
  ∀ (H' : Hp) (st' : List (List Nat)) (en' : List Nat), But x H H' → MachD K H' x dx m st' en' → Canon m (lang m st en) st' en' → Q .non H'
theorem scMInit : FnScope ["self", "letters", "steps", "ends"] ["self", "letters", "steps", "ends"] (defScope sMInit) := ⟨rfl, rfl, rfl, by decide +kernel, rfl, by decide +kernel, by decide +kernel⟩
theorem f_init (T : Txt K mg) : ∃ fd, FnOk P w K mg base CX0 4 (mInit K) fd ["self", "letters", "steps", "ends"] (spMInit K) ∧ Binds K fd ["self", "letters", "steps", "ends"] [] := by
  obtain ⟨fd, F0⟩ := T.d 13 rfl
  have F : FnP K "__init__" "Machine.__init__" sMInit (mInit K) fd := F0
  refine ⟨fd, FnP_ok F scMInit (fun vs H Q E h => ?_) (fun cdv A outer s H vs Q E hr h => ?_), F.bindsN (fun _ _ _ _ _ _ us hl => match us, hl with | [_, _, _, _], _ => rfl)⟩
  · obtain ⟨x, dx, a, ea, m, st, en, rfl, _⟩ := h
    rfl
  · obtain ⟨x, dx, a, ea, m, st, en, rfl, hx, hR, hst, h1, h12, hE, nde, hl, k⟩ := h
    have few : en.length ≤ st.length := by
      have := nodup_le nde (U := List.range st.length) fun q hq => List.mem_range.mpr (hl q hq)
      rwa [List.length_range] at this
    refine ⟨_, pss_cons (ps_expr (pe_c (c_want_letters T) hr (by decide) (pa_cons (pv 1) pa_nil)))
      (pss_cons (ps_if (pt_not (pt_val (pe_c (c_are_steps T) hr (by decide) (pa_cons (pv 1) (pa_cons (pv 2) pa_nil))))) (pss_one ps_never) pss_nil)
      (pss_cons (ps_if (pt_not (pt_val (pe_c (c_are_ends T) hr (by decide) (pa_cons (pe_callB call_len_seq (by rfl) (T.f 0 rfl) boot_len (pa_cons (pv 2) pa_nil)) (pa_cons (pv 3) pa_nil))))) (pss_one ps_never) pss_nil)
      (pss_cons (ps_fld (pv 0) (pv 1) rfl)
      (pss_one (ps_asg (pe_c (c_least_form T) hr (by decide) (pa_cons (pv 2) (pa_cons (pv 3) pa_nil))) (pg_tup rfl (pgs_cons (pg_fld (pv 0)) (pgs_cons (pg_fld (pv 0)) pgs_nil)))))))), ?_⟩
    refine ⟨_, rfl, _, rfl, by omega, by have := hst.let_; omega, _, rfl, _, rfl, m, a, st, rfl, hR, hst, h12, fun H1 s1 => ⟨true, rfl, iteF ?_⟩⟩
    obtain ⟨as, hA, hP⟩ := id hR
    have lenA : as.length = st.length := by rw [Paired.len hP, List.length_map]
    refine ⟨_, rfl, a, _, rfl, hA.mono s1, _, rfl, st.length, ea, en, by rw [List.length_map, lenA] <;> rfl, s1.seq hE, nde, by omega, hl, fun H2 s2 => ⟨true, rfl, iteF ?_⟩⟩
    have s3 := s1.trans s2
    refine ⟨_, rfl, _, rfl, x, mC K, dx, [], rfl, s3 _ _ hx, T.cl, T.nL, by decide, ?_⟩
    have hx2 := s3 _ _ hx
    refine ⟨_, rfl, _, rfl, a, ea, m, st, en, rfl, rows_ins hx2 (hR.mono s3), hst, sq_ins hx2 (.inl (s3.seq hE)), hl, by omega, fun H4 tp st' en' s4 hT hC => ?_⟩
    obtain ⟨tt, te, e1, e2, e3⟩ := hT
    have hx4 := s4 _ _ (upd_same : upd H2 x (.ins (mC K) dx (putF "own_letters" (.int (m : Int)) [])) x = _)
    refine ⟨tp, _, rfl, SqT.of e1, rfl, _, _, rfl, _, rfl, x, mC K, dx, _, rfl, hx4, T.cl, T.nS, by show 1 < 1000; decide, _, _, rfl, _, rfl, x, mC K, dx, _, rfl, upd_same, T.cl, T.nE, by show 2 < 1000; decide, rfl, ?_⟩
    rw [upd_upd]
    refine k _ st' en' (fun p o hp e => ?_) ⟨tt, te, ?_, ?_, ?_⟩ hC
    · rw [upd_ne hp]
      refine s4 _ _ ?_
      rw [upd_ne hp]
      exact s3 _ _ e
    · rw [upd_same] <;> rfl
    · exact tt_ins hx4 e2
    · rw [upd_ne (ne_of e3 hx4 (fun z => nomatch z))]
      exact e3
/-! ### least -/
def spLeast (K : PySem.W.Frag) : Sp := fun vs H Q _ => ∃ (a ea : Addr) (m : Nat) (st : List (List Nat)) (en : List Nat), vs = [.int (m : Int), .ref a, .ref ea] ∧ Rows K H a (toR st) ∧ Sts m st ∧ 1 ≤ m ∧ Sq K H ea ((toI en).map V.int) ∧ (∀ q ∈ en, q < st.length) ∧ en.length ≤ 1000000 ∧
  (∀ st' en', Canon m (lang m st en) st' en' → st'.length ≤ 60) ∧ ∀ (H' : Hp) (p : Addr) (st' : List (List Nat)) (en' : List Nat), Same H H' → Mach K H' p m st' en' → Canon m (lang m st en) st' en' → Q (.ref p) H'
theorem scLeast : FnScope ["letters", "steps", "ends", "told", "last", "found"] ["letters", "steps", "ends"] (defScope sLeast) := ⟨rfl, rfl, rfl, by decide +kernel, rfl, by decide +kernel, by decide +kernel⟩
theorem rep_flat (m : Nat) : (List.replicate m [V.int 0]).flatten = (toI (List.replicate m 0)).map V.int := by
  induction m with
  | zero => rfl
  | succ m ih =>
    rw [List.replicate_succ, List.flatten_cons, ih, List.replicate_succ] <;> rfl
theorem c_least (T : Txt K mg) : Cal P w K mg base 6 "least" ["letters", "steps", "ends"] (spLeast K) := by
  obtain ⟨fdI, FI, bI⟩ := f_init (P := P) (w := w) (base := base) T
  refine cal sLeast T 15 13 rfl rfl scLeast (fun _ _ _ _ _ _ us hl => match us, hl with | [_, _, _], _ => rfl) (fun vs H Q E h => ?_) (fun cdv A outer s H vs Q E hr h => ?_)
  · obtain ⟨a, ea, m, st, en, rfl, _⟩ := h
    rfl
  · obtain ⟨a, ea, m, st, en, rfl, hR, hst, h1, hE, hl, few, h60, k⟩ := h
    have nd := scLeast.nd
    refine ⟨_, pss_cons (ps_asg (pe_c (c_least_form T) hr (by decide) (pa_cons (pv 1) (pa_cons (pv 2) pa_nil))) (pg_tup rfl (pgs_cons (pg_name (i := 3) nd rfl (Or.inl rfl)) (pgs_cons (pg_name (i := 4) nd rfl (Or.inl rfl)) pgs_nil))))
      (pss_cons (ps_expr (pe_c (c_want_at_most T) hr (by decide) (pa_cons pe_str (pa_cons (pe_gint T.iS) (pa_cons (pe_callB call_len_seq (by rfl) (T.f 0 rfl) boot_len (pa_cons (pv 3) pa_nil)) pa_nil)))))
      (pss_cons (ps_set (i := 5) nd rfl (Or.inl rfl) (pe_make T.mkr FI hr (by rfl) T.gM bI .nil pass0 (pa_cons (pv 0) (pa_cons (pe_lst (pa_cons (pe_op op_rep (pe_lst (pa_cons pe_int pa_nil)) (pv 0)) pa_nil)) (pa_cons (pe_lst pa_nil) pa_nil)))))
      (pss_cons (ps_asg (pe_tup (pa_cons (pv 3) (pa_cons (pv 4) pa_nil))) (pg_tup rfl (pgs_cons (pg_fld (pv 5)) (pgs_cons (pg_fld (pv 5)) pgs_nil))))
      (pss_one (ps_ret (pv 5)))))), ?_⟩
    refine ⟨_, rfl, _, rfl, a, ea, m, st, en, rfl, hR, hst, hE, hl, few, fun H1 tp st' en' s1 hT hC => ?_⟩
    obtain ⟨tt, te, e1, e2, e3⟩ := hT
    obtain ⟨as, e4, hP⟩ := id e2
    have lenA : as.length = st'.length := by rw [Paired.len hP, List.length_map]
    have h60' := h60 _ _ hC
    refine ⟨tp, _, rfl, SqT.of e1, rfl, _, _, rfl, _, _, rfl, rfl, ?_⟩
    refine ⟨_, rfl, tt, _, rfl, .inr (SqT.of e4), _, _, _, rfl, by rw [List.length_map, lenA]; omega, ?_⟩
    have m3 := hst.let_
    refine ⟨_, rfl, by show 1 ≤ sizeLine; decide, fun z1 hz1 => ⟨_, rfl, z1, _, _, rfl, rfl, upd_same, by omega, by omega, by show 1 * (m : Int).toNat ≤ sizeLine; rw [sizeLine_eq]; omega, fun z2 hz2 => ⟨by show 1 ≤ sizeLine; decide, fun z3 hz3 => ⟨by show 0 ≤ sizeLine; decide, fun z4 hz4 x dx hx hdx ndx => ?_⟩⟩⟩⟩
    rw [show (m : Int).toNat = m by omega, rep_flat] at hz3 hz4 hx hdx ⊢
    have q1 : Same H1 (upd H1 z1 (.lst [V.int 0])) := same_new hz1
    have q2 : Same (upd H1 z1 (.lst [V.int 0])) (upd (upd H1 z1 (.lst [V.int 0])) z2 (.lst ((toI (List.replicate m 0)).map V.int))) := same_new hz2
    generalize hH2 : upd (upd H1 z1 (.lst [V.int 0])) z2 (.lst ((toI (List.replicate m 0)).map V.int)) = H2 at hz3 hz4 hx hdx q2
    have g2 : H2 z2 = some (.lst ((toI (List.replicate m 0)).map V.int)) := by rw [← hH2]; exact upd_same
    have q3 : Same H2 (upd H2 z3 (.lst [V.ref z2])) := same_new hz3
    have g3 : (upd H2 z3 (.lst [V.ref z2])) z3 = some (.lst [V.ref z2]) := upd_same
    generalize upd H2 z3 (.lst [V.ref z2]) = H3 at hz4 hx hdx q3 g3
    have q4 : Same H3 (upd H3 z4 (.lst [])) := same_new hz4
    have g4 : (upd H3 z4 (.lst [])) z4 = some (.lst []) := upd_same
    generalize upd H3 z4 (.lst []) = H4 at hx hdx q4 g4
    have q5 : Same H4 (upd (upd H4 dx (.own x)) x (.ins (mC K) dx [])) := Same.up (same_new hdx) (by rw [upd_ne ndx.symm]; exact hx)
    have g5 : (upd (upd H4 dx (.own x)) x (.ins (mC K) dx [])) x = some (.ins (mC K) dx []) := upd_same
    generalize upd (upd H4 dx (.own x)) x (.ins (mC K) dx []) = H5 at q5 g5
    have q15 : Same H1 H5 := q1.trans (q2.trans (q3.trans (q4.trans q5)))
    refine ⟨x, dx, z3, z4, m, [List.replicate m 0], [], rfl, g5, ⟨[z2], .inl (SqL.of (q5 _ _ (q4 _ _ g3))), .cons (.inl (SqL.of (q5 _ _ (q4 _ _ (q3 _ _ g2))))) .nil⟩, ⟨Nat.zero_lt_one, fun r hr => ?_, by show 1 ≤ 1000000; decide, m3⟩, h1, by show 1 ≤ 12; decide, SqL.of (q5 _ _ g4), List.nodup_nil, (fun q hq => nomatch hq), fun H6 st6 en6 hB hM _ => ⟨rfl, ?_⟩⟩
    · obtain rfl := List.mem_singleton.mp hr
      exact ⟨List.length_replicate, fun q hq => by rw [(List.mem_replicate.mp hq).2]; exact Nat.zero_lt_one⟩
    obtain ⟨tt6, te6, m1, m2, m3'⟩ := hM
    have hxH1 : H1 x = none := Same.none (q1.trans (q2.trans (q3.trans q4))) hx
    have q16 : Same H1 H6 := fun p o e => hB p o (ne_of_none e hxH1) (q15 _ _ e)
    refine ⟨_, rfl, _, rfl, by show 2 ≤ sizeLine; decide, fun t ht => ?_⟩
    have q7 : Same H6 (upd H6 t (.tup [V.ref tt, V.ref te])) := same_new ht
    have m7 := q7 _ _ m1
    refine ⟨t, _, rfl, SqT.of upd_same, rfl, _, _, rfl, _, rfl, x, mC K, dx, _, rfl, m7, T.cl, T.nS, by show 3 < 1000; decide, _, _, rfl, _, rfl, x, mC K, dx, _, rfl, upd_same, T.cl, T.nE, by show 3 < 1000; decide, rfl, ?_⟩
    rw [upd_upd]
    refine ⟨_, rfl, k _ x st' en' (fun p o e => ?_) ⟨dx, tt, te, upd_same, tt_ins m7 (e2.mono (q16.trans q7)), ?_⟩ hC⟩
    · rw [upd_ne (ne_of_none (s1 _ _ e) hxH1)]
      exact q7 _ _ (q16 _ _ (s1 _ _ e))
    · rw [upd_ne (ne_of_none e3 hxH1)]
      exact q7 _ _ (q16 _ _ e3)
/-! ### want_machine -/
def spWantMachine (K : PySem.W.Frag) : Sp := fun vs H Q _ => ∃ (p : Addr) (m : Nat) (st : List (List Nat)) (en : List Nat), vs = [.ref p] ∧ Mach K H p m st en ∧ Q (.ref p) H
theorem scWantMachine : FnScope ["value"] ["value"] (defScope sWantMachine) := ⟨rfl, rfl, rfl, by decide +kernel, rfl, by decide +kernel, by decide +kernel⟩
theorem c_want_machine (T : Txt K mg) : Cal P w K mg base 1 "want_machine" ["value"] (spWantMachine K) := by
  refine cal sWantMachine T 16 14 rfl rfl scWantMachine (fun _ _ _ _ _ _ us hl => match us, hl with | [_], _ => rfl) (fun vs H Q E h => ?_) (fun cdv A outer s H vs Q E hr h => ?_)
  · obtain ⟨p, m, st, en, rfl, _⟩ := h
    rfl
  · obtain ⟨p, m, st, en, rfl, ⟨dx, tt, te, h1, _⟩, k⟩ := h
    refine ⟨_, pss_cons (ps_if (pt_not (pt_val (pe_callB (C8.call_isC T.ins) (by rfl) (T.f 7 rfl) boot_isinstance (pa_cons (pv 0) (pa_cons (pe_gcls (K := K) T.gM) pa_nil))))) (pss_one ps_never) pss_nil) (pss_one (ps_ret (pv 0))), ?_⟩
    exact ⟨_, rfl, p, dx, _, rfl, h1, true, rfl, iteF ⟨_, rfl, k⟩⟩
/-! ### is_end -/
def spIsEnd (K : PySem.W.Frag) : Sp := fun vs H Q _ => ∃ (p : Addr) (m q : Nat) (st : List (List Nat)) (en : List Nat), vs = [.ref p, .int (q : Int)] ∧ Mach K H p m st en ∧ Q (.bl (decide (q ∈ en))) H
theorem scIsEnd : FnScope ["machine", "state"] ["machine", "state"] (defScope sIsEnd) := ⟨rfl, rfl, rfl, by decide +kernel, rfl, by decide +kernel, by decide +kernel⟩
theorem c_is_end (T : Txt K mg) : Cal P w K mg base 1 "is_end" ["machine", "state"] (spIsEnd K) := by
  refine cal sIsEnd T 18 16 rfl rfl scIsEnd (fun _ _ _ _ _ _ us hl => match us, hl with | [_, _], _ => rfl) (fun vs H Q E h => ?_) (fun cdv A outer s H vs Q E hr h => ?_)
  · obtain ⟨p, m, q, st, en, rfl, _⟩ := h
    rfl
  · obtain ⟨p, m, q, st, en, rfl, ⟨dx, tt, te, h1, h2, h3⟩, k⟩ := h
    refine ⟨_, pss_one (ps_ret (pe_cmpR op_in_seq (pv 1) (pe_fld (pv 0) rfl) (by rfl))), ?_⟩
    refine ⟨_, rfl, _, rfl, p, mC K, dx, _, _, rfl, h1, T.cl, T.nE, rfl, te, _, rfl, .inr (SqT.of h3), rfl, flat_ints _, ?_⟩
    rw [inV_nat]
    exact k
/-! ### led -/
def spLed (K : PySem.W.Frag) : Sp := fun vs H Q _ => ∃ (p : Addr) (m q : Nat) (st : List (List Nat)) (en : List Nat) (u : List Nat), vs = [.ref p, .int (q : Int), .str (wS u)] ∧ Mach K H p m st en ∧ Valid m st en ∧ q < st.length ∧ Wd m u ∧ ∀ H', Same H H' → Q (.int (run st q u : Nat)) H'
theorem scLed : FnScope ["machine", "state", "word", "here", "number"] ["machine", "state", "word"] (defScope sLed) := ⟨rfl, rfl, rfl, by decide +kernel, rfl, by decide +kernel, by decide +kernel⟩
theorem go_get {m : Nat} {st : List (List Nat)} {en : List Nat} (v : Valid m st en) {q l : Nat} (hq : q < st.length) (hl : l < m) : ∃ row, st[q]? = some row ∧ row[l]? = some (go st q l) := by
  obtain ⟨h1, h2⟩ := v.row st[q] (List.getElem_mem hq)
  have e : st.getD q [] = st[q] := by rw [List.getD_eq_getElem?_getD, List.getElem?_eq_getElem hq] <;> rfl
  refine ⟨st[q], List.getElem?_eq_getElem hq, ?_⟩
  unfold K81M.go
  rw [e, List.getD_eq_getElem?_getD, List.getElem?_eq_getElem (by omega)] <;> rfl
theorem run_lt {m : Nat} {st : List (List Nat)} {en : List Nat} (v : Valid m st en) : ∀ {u : List Nat} {q : Nat}, q < st.length → (∀ l ∈ u, l < m) → run st q u < st.length
  | [], q, h, _ => h
  | l :: u, q, h, hu => by
    rw [run_cons]
    exact run_lt v (v.go h (hu l List.mem_cons_self)) fun k hk => hu k (List.mem_cons_of_mem _ hk)
theorem c_led (T : Txt K mg) : Cal P w K mg base 2 "led" ["machine", "state", "word"] (spLed K) := by
  refine cal sLed T 17 15 rfl rfl scLed (fun _ _ _ _ _ _ us hl => match us, hl with | [_, _, _], _ => rfl) (fun vs H Q E h => ?_) (fun cdv A outer s H vs Q E hr h => ?_)
  · obtain ⟨p, m, q, st, en, u, rfl, _⟩ := h
    rfl
  · obtain ⟨p, m, q, st, en, u, rfl, hM, hv, hq, W, k⟩ := h
    have nd := scLed.nd
    refine ⟨_, pss_cons (ps_set (i := 3) nd rfl (Or.inl rfl) (pv 1))
      (pss_cons (ps_for PassesOwn.never rfl (pi_sq (pe_c (c_spots T) hr (by decide) (pa_cons (pv 2) pa_nil))) (pg_name (i := 4) nd rfl (Or.inl rfl))
        (pss_one (ps_set (i := 3) nd rfl (Or.inl rfl) (pe_ix ix_sq (pe_ix ix_sq (pe_fld (pv 0) rfl) (pv 3) (fun _ _ => rfl)) (pv 4) (fun _ _ => rfl)))))
      (pss_one (ps_ret (pv 3)))), ?_⟩
    refine ⟨_, rfl, _, rfl, u, rfl, fun l hl => by have := W.all l hl; have := W.m3; omega, W.few, fun H1 t s1 ht1 ht2 => ?_⟩
    refine ⟨t, _, H1, rfl, .inr (SqT.of ht2), fun o e => e, fun J wJ => ?_⟩
    refine for_it wJ (fun i σ' H2 => ∃ v, σ' = [some (.ref p), some (.int (q : Int)), some (.str (wS u)), some (.int (run st q (u.take i) : Nat)), v] ∧ Same H1 H2) ⟨none, rfl, Same.refl _⟩ (fun i σ' H2 _ ⟨_, _, s2⟩ => fun o e => s2 _ _ e) ?_ ?_
    · rintro i x σ' _ H2 hi ⟨v, rfl, s2⟩ ⟨rfl, hx⟩
      obtain ⟨z, hz, rfl⟩ := map_int_get hx
      obtain ⟨l, hl, rfl⟩ := toI_get hz
      have hlm := W.all l (List.mem_of_getElem? hl)
      obtain ⟨dx, tt, te, h1, ⟨as, h2, hP⟩, h3⟩ := hM.mono (s1.trans s2)
      have hlt : run st q (u.take i) < st.length := run_lt hv hq fun k hk => W.all k (List.mem_of_mem_take hk)
      obtain ⟨row, hrow, hg⟩ := go_get hv hlt hlm
      obtain ⟨b, hb, hb2⟩ := Paired.get' hP (i := run st q (u.take i)) (b := toI row) (by rw [List.getElem?_map, hrow] <;> rfl)
      refine ⟨_, rfl, p, mC K, dx, _, _, rfl, h1, T.cl, T.nS, rfl, _, rfl, tt, _, _, _, rfl, rfl, .inr (SqT.of h2), atI_nat (refs_at hb), _, rfl, b, _, _, _, rfl, rfl, .inr (SqT.of hb2), atI_nat (ints_at (toI_at hg)), some (.int (l : Int)), ?_, s2⟩
      have e : run st q (u.take (i + 1)) = go st (run st q (u.take i)) l := by
        rw [List.take_add_one, hl, run_app] <;> rfl
      rw [e] <;> rfl
    · rintro σ' H2 ⟨v, rfl, s2⟩
      rw [ivs_len, List.take_length]
      exact ⟨_, rfl, k _ (s1.trans s2)⟩
/-! ### is_let, lets -/
def spLets (K : PySem.W.Frag) : Sp := fun vs H Q _ => ∃ (p : Addr) (m : Nat) (st : List (List Nat)) (en : List Nat) (u : List Nat), vs = [.ref p, .str (wS u)] ∧ Mach K H p m st en ∧ Valid m st en ∧ Wd m u ∧ ∀ H', Same H H' → Q (.bl (decide (run st 0 u ∈ en))) H'
theorem scIsLet : FnScope ["machine", "word"] ["machine", "word"] (defScope sIsLet) := ⟨rfl, rfl, rfl, by decide +kernel, rfl, by decide +kernel, by decide +kernel⟩
theorem c_is_let (T : Txt K mg) : Cal P w K mg base 3 "is_let" ["machine", "word"] (spLets K) := by
  refine cal sIsLet T 19 17 rfl rfl scIsLet (fun _ _ _ _ _ _ us hl => match us, hl with | [_, _], _ => rfl) (fun vs H Q E h => ?_) (fun cdv A outer s H vs Q E hr h => ?_)
  · obtain ⟨p, m, st, en, u, rfl, _⟩ := h
    rfl
  · obtain ⟨p, m, st, en, u, rfl, hM, hv, W, k⟩ := h
    refine ⟨_, pss_one (ps_ret (pe_c (c_is_end T) hr (by decide) (pa_cons (pv 0) (pa_cons (pe_c (c_led T) hr (by decide) (pa_cons (pv 0) (pa_cons pe_int (pa_cons (pv 1) pa_nil)))) pa_nil)))), ?_⟩
    exact ⟨_, rfl, _, rfl, _, rfl, p, m, 0, st, en, u, rfl, hM, hv, hv.pos, W, fun H1 s1 => ⟨p, m, _, st, en, rfl, hM.mono s1, k H1 s1⟩⟩
theorem scLets : FnScope ["machine", "word"] ["machine", "word"] (defScope sLets) := ⟨rfl, rfl, rfl, by decide +kernel, rfl, by decide +kernel, by decide +kernel⟩
theorem c_lets (T : Txt K mg) : Cal P w K mg base 4 "lets" ["machine", "word"] (spLets K) := by
  refine cal sLets T 20 18 rfl rfl scLets (fun _ _ _ _ _ _ us hl => match us, hl with | [_, _], _ => rfl) (fun vs H Q E h => ?_) (fun cdv A outer s H vs Q E hr h => ?_)
  · obtain ⟨p, m, st, en, u, rfl, _⟩ := h
    rfl
  · obtain ⟨p, m, st, en, u, rfl, hM, hv, W, k⟩ := h
    refine ⟨_, pss_cons (ps_expr (pe_c (c_want_machine T) hr (by decide) (pa_cons (pv 0) pa_nil))) (pss_one (ps_ret (pe_c (c_is_let T) hr (by decide) (pa_cons (pv 0) (pa_cons (pe_c (c_want_word T) hr (by decide) (pa_cons (pe_fld (pv 0) rfl) (pa_cons (pv 1) pa_nil))) pa_nil))))), ?_⟩
    obtain ⟨dx, tt, te, h1, h2⟩ := id hM
    exact ⟨_, rfl, p, m, st, en, rfl, hM, _, rfl, _, rfl, p, mC K, dx, _, _, rfl, h1, T.cl, T.nL, rfl, _, rfl, m, u, rfl, W, fun H1 s1 => ⟨p, m, st, en, u, rfl, hM.mono s1, hv, W, fun H2 s2 => k H2 (s1.trans s2)⟩⟩
/-! ### == -/
def eqR (K : PySem.W.Frag) : Addr → Addr → Hp → Prop := fun a b H => ∃ m st en, Mach K H a m st en ∧ Mach K H b m st en
theorem scMEq : FnScope ["self", "other"] ["self", "other"] (defScope sMEq) := ⟨rfl, rfl, rfl, by decide +kernel, rfl, by decide +kernel, by decide +kernel⟩
theorem dp_ints {H : Hp} : ∀ r : List Int, DpAll K H (r.map V.int) (r.map PyData.int)
  | [] => .nil
  | i :: r => .cons (.int i) (dp_ints r)
theorem dp_rows {H : Hp} : ∀ {as : List Addr} {rows : List (List Int)}, Paired (fun b (r : List Int) => H b = some (.tup (r.map V.int))) as rows → DpAll K H (as.map V.ref) (rows.map fun r => PyData.tuple (r.map PyData.int))
  | _, _, .nil => .nil
  | _, _, .cons h t => .cons (.tup (SqT.of h) (dp_ints _)) (dp_rows t)
theorem lay_ints : ∀ r : List Int, PyData.canLayAll0 (r.map PyData.int) = true ∧ PyData.depthAll (r.map PyData.int) = 0
  | [] => ⟨rfl, rfl⟩
  | i :: r => by
    obtain ⟨h1, h2⟩ := lay_ints r
    rw [List.map_cons]
    refine ⟨by simp [PyData.canLayAll0, PyData.canLay0, h1], by simp [PyData.depthAll, PyData.depth, h2]⟩
theorem lay_rows : ∀ rows : List (List Int), PyData.canLayAll0 (rows.map fun r => PyData.tuple (r.map PyData.int)) = true ∧ PyData.depthAll (rows.map fun r => PyData.tuple (r.map PyData.int)) ≤ 1
  | [] => ⟨rfl, by decide⟩
  | r :: rows => by
    obtain ⟨h1, h2⟩ := lay_rows rows
    obtain ⟨h3, h4⟩ := lay_ints r
    rw [List.map_cons]
    refine ⟨by simp [PyData.canLayAll0, PyData.canLay0, h1, h3], ?_⟩
    simp only [PyData.depthAll, PyData.depth, h4]
    omega
theorem sh_ints (r : List Int) : SeqAt.shaped (.tuple (r.map PyData.int)) = true := by
  obtain ⟨h1, h2⟩ := lay_ints r
  unfold SeqAt.shaped
  simp only [PyData.canLay0, PyData.depth, h1, h2, Bool.true_and]
  decide
theorem sh_rows (rows : List (List Int)) : SeqAt.shaped (.tuple (rows.map fun r => PyData.tuple (r.map PyData.int))) = true := by
  obtain ⟨h1, h2⟩ := lay_rows rows
  unfold SeqAt.shaped
  simp only [PyData.canLay0, PyData.depth, h1, Bool.true_and]
  exact decide_eq_true (by omega)
theorem eqv_same {d : PyData} (h : SeqAt.shaped d = true) : PyData.eqv d d = true := PySem.SeqAt.eqv_refl d (SeqAt.canLay_of_shaped h)
theorem f_eq (T : Txt K mg) : ∃ fd, FnOk P w K mg base CX0 1 (mEq K) fd ["self", "other"] (spEqB (eqR K)) ∧ Binds K fd ["self", "other"] [] := by
  obtain ⟨fd, F0⟩ := T.d 14 rfl
  have F : FnP K "__eq__" "Machine.__eq__" sMEq (mEq K) fd := F0
  refine ⟨fd, FnP_ok F scMEq (fun vs H Q E h => ?_) (fun cdv A outer s H vs Q E hr h => ?_), F.bindsN (fun _ _ _ _ _ _ us hl => match us, hl with | [_, _], _ => rfl)⟩
  · obtain ⟨a, b, rfl, _⟩ := h
    rfl
  · obtain ⟨a, b, rfl, ⟨m, st, en, ⟨dx, tt, te, a1, ⟨as, a2, aP⟩, a3⟩, ⟨dy, tt', te', b1, ⟨bs, b2, bP⟩, b3⟩⟩, k⟩ := h
    refine ⟨_, pss_cons (ps_if (PW.pt (pw_or (pt_not (pt_val (pe_callB (C8.call_isC T.ins) (by rfl) (T.f 7 rfl) boot_isinstance (pa_cons (pv 1) (pa_cons (pe_gcls (K := K) T.gM) pa_nil))))) (pw_or1 (pt_cmpR op_ne (pe_fld (pv 0) rfl) (pe_fld (pv 1) rfl) (nomark _))))) (pss_one ps_never) pss_nil)
      (pss_one (ps_ret (pe_and (pe_cmpR (op_eqD hr.units) (pe_fld (pv 0) rfl) (pe_fld (pv 1) rfl) (nomark _)) (pe_one (pe_cmpR (op_eqD hr.units) (pe_fld (pv 0) rfl) (pe_fld (pv 1) rfl) (nomark _)))))), ?_⟩
    refine ⟨_, rfl, b, dy, _, rfl, b1, true, rfl, iteF ⟨_, rfl, a, mC K, dx, _, _, rfl, a1, T.cl, T.nL, rfl, _, rfl, b, mC K, dy, _, _, rfl, b1, T.cl, T.nL, rfl, rfl, _, rfl, ?_⟩⟩
    have ec : (!decide (V.int (m : Int) = V.int (m : Int))) = false := by simp
    rw [ec]
    refine iteF ⟨_, rfl, a, mC K, dx, _, _, rfl, a1, T.cl, T.nS, rfl, _, rfl, b, mC K, dy, _, _, rfl, b1, T.cl, T.nS, rfl, _, _, .tup (SqT.of a2) (dp_rows aP), .tup (SqT.of b2) (dp_rows bP), sh_rows _, sh_rows _, ?_⟩
    rw [eqv_same (sh_rows _)]
    refine ⟨true, rfl, iteT ⟨_, rfl, a, mC K, dx, _, _, rfl, a1, T.cl, T.nE, rfl, _, rfl, b, mC K, dy, _, _, rfl, b1, T.cl, T.nE, rfl, _, _, .tup (SqT.of a3) (dp_ints _), .tup (SqT.of b3) (dp_ints _), sh_ints _, sh_ints _, ?_⟩⟩
    rw [eqv_same (sh_ints _)]
    exact k _ (Same.refl _)
end
end K81
end
section
set_option Elab.async false
set_option maxRecDepth 100000
set_option maxHeartbeats 4000000
set_option linter.all false
set_option pp.maxSteps 1500
set_option pp.deepTerms false
/-! Functions handed to a def: what they promise at a state and later. -/
namespace K81
open PySem PySem.Spec PyProof.Rows L2 K81M NdefX LamX
def Later (s : Shared) (H : Hp) (s' : Shared) (H' : Hp) : Prop := ∃ fs, Un fs [] H H' s.heap s'.heap
/-- the function at f may be called now and later -/
structure Clo (P : Program) (w : World) (K : PySem.W.Frag) (mg : Str → Option Value) (base : Heap) (k : Nat) (f : Addr) (sp : Sp) (s : Shared) (H : Hp) : Prop where
  at_ : ∀ s' H', Later s H s' H' → Same H H' → HOk P w H' s'.heap → PySem.W.FnAt f s'.heap
  run : ∀ (A : Around) (outer : List Env) (s' : Shared) (H' : Hp) (us : List Value) (vs : List V) (Q : VK), Later s H s' H' → Same H H' → Room k A → Env0 P w K mg base A outer s' H' → Vals vs us → sp vs H' Q E0 →
    codeAny (model P w) A (.call (.ref f) ⟨us, []⟩) (CR CX0 outer P w H' s' Q E0) s'
section
variable {P : Program} {w : World} {K : PySem.W.Frag} {mg : Str → Option Value} {base : Heap}
theorem cells_later {cl : List (Str × Addr)} {fr : List Str} {ws : List (Option V)} {s s' : Shared} {H H' : Hp} (C : CellsAt cl fr ws s.heap H) (l : Later s H s' H') : CellsAt cl fr ws s'.heap H' := by
  obtain ⟨fs, un⟩ := l
  have kp : ∀ {c : Addr} {v : Option Value}, H c = none → s.heap.IsCell c v → s'.heap.IsCell c v := fun {c v} n ⟨o, ho, hd⟩ => by
    obtain ⟨sl, q⟩ := un.any ho n (by simp)
    exact ⟨_, q, hd⟩
  refine ⟨C.len, fun y c e => ?_, C.inj, fun i y e => ?_⟩
  · obtain ⟨n, v, z⟩ := C.all y c e
    refine ⟨?_, v, kp n z⟩
    obtain ⟨o, ho, _⟩ := z
    exact un.free c o ho n (by simp)
  · obtain ⟨c, hc, hv⟩ := C.has i y e
    refine ⟨c, hc, fun v ev => ?_⟩
    obtain ⟨u, r, z⟩ := hv v ev
    exact ⟨u, r, kp (C.all y c hc).1 z⟩
theorem clo_nok {k : Nat} {f : Addr} {F : NF} {ps fr : List Str} {sp : List (Option V) → Sp} {ws : List (Option V)} {s : Shared} {H : Hp} (Fn : NOk P w K mg base CX0 k f F ps fr sp) (hf : H f = some (FnO f F)) (hc : H F.c = some (CodeO F.c F.qual)) (C : CellsAt F.cl fr ws s.heap H) :
    Clo P w K mg base k f (sp ws) s H where
  at_ := fun s' H' l e hok => by
    obtain ⟨od, sl, doc, pm, ctv, ho⟩ := fnO_at hok (e _ _ hf)
    exact ⟨_, od, _, sl, ho⟩
  run := fun A outer s' H' us vs Q l e hr e0 r q => Fn.run A outer s' H' us vs ws Q E0 hr e0 (e _ _ hf) (e _ _ hc) (cells_later C l) r q
/-- a def whose promise is told of the state at its entry -/
structure FnOkS (P : Program) (w : World) (K : PySem.W.Frag) (mg : Str → Option Value) (base : Heap) (k : Nat) (f : Addr) (fd : FuncData) (ps : List Str) (sp : Shared → Sp) : Prop where
  len : ∀ s vs H Q E, sp s vs H Q E → vs.length = ps.length
  run : ∀ (A : Around) (outer : List Env) (s : Shared) (H : Hp) (args : Args) (us : List Value) (vs : List V) (Q : VK) (E : XK), Room k A → Env0 P w K mg base A outer s H → BindsTo s fd args (ps.zip us) → Vals vs us → sp s vs H Q E →
    codeAny (model P w) A (.call (.ref f) args) (CR CX0 outer P w H s Q E) s
theorem FnP_okS {x qual : Str} {st : Stmt} {f : Addr} {fd : FuncData} {N ps : List Str} {k : Nat} {sp : Shared → Sp} (F : FnP K x qual st f fd) (S : FnScope N ps (defScope st)) (len : ∀ s vs H Q E, sp s vs H Q E → vs.length = ps.length)
    (hbody : ∀ (cdv : Value) (A : Around) (outer : List Env) (s : Shared) (H : Hp) (vs : List V) (Q : VK) (E : XK), Room k (A.deeper (envOfC qual (defScope st) s.heap.objs.size f cdv)) → sp s vs H Q E →
      ∃ t, PSs (cxOf CX0 P w K mg base N qual (defScope st) f cdv A outer s H E).nox (defBody st) t ∧ t { nx := fun _ H' => Q .non H', rt := Q } (L2.start N vs) H) : FnOkS P w K mg base (k + 1) f fd ps sp := by
  obtain ⟨oc, od, dV, kV, doc, pm, an, cdv, ct, osl, rfl, lk, hcd, _, _⟩ := F.ex
  refine ⟨len, fun A outer s H args us vs Q E hr e0 hb r hsp => run_ofS lk hcd S hr e0 hb r (len _ _ _ _ _ hsp) fun hr' => ?_⟩
  obtain ⟨t, d, q⟩ := hbody cdv A outer s H vs Q E hr' hsp
  exact ⟨t, d.nox, q⟩
structure CalS (P : Program) (w : World) (K : PySem.W.Frag) (mg : Str → Option Value) (base : Heap) (k : Nat) (x : Str) (ps : List Str) (sp : Shared → Sp) : Prop where
  ex : ∃ fd, FnOkS P w K mg base k (He.ga K x) fd ps sp ∧ Binds K fd ps [] ∧ PySem.W.keepIn K (.ref (He.ga K x)) = true ∧ mg x = some (.ref (He.ga K x))
theorem calS (st : Stmt) {x : Str} {N ps : List Str} {k : Nat} {sp : Shared → Sp} (T : Txt K mg) (i j : Nat) (hd : fn[i]? = some { at_ := (x, none), name := x, qual := x, params := defArgs st, body := defBody st, scope := defScope st }) (hg : faG[j]? = some x) (S : FnScope N ps (defScope st))
    (bnd : ∀ (kV doc pm : Value) (an : Option Addr) (cdv ct : Value) (us : List Value), us.length = ps.length → bindArgs (PySem.W.fnOf x x (defArgs st) (defBody st) (defScope st) .none kV doc pm an cdv ct) ⟨us, []⟩ = pure (ps.zip us))
    (len : ∀ s vs H Q E, sp s vs H Q E → vs.length = ps.length)
    (hbody : ∀ (cdv : Value) (A : Around) (outer : List Env) (s : Shared) (H : Hp) (vs : List V) (Q : VK) (E : XK), Room k (A.deeper (envOfC x (defScope st) s.heap.objs.size (He.ga K x) cdv)) → sp s vs H Q E →
      ∃ t, PSs (cxOf CX0 P w K mg base N x (defScope st) (He.ga K x) cdv A outer s H E).nox (defBody st) t ∧ t { nx := fun _ H' => Q .non H', rt := Q } (L2.start N vs) H) : CalS P w K mg base (k + 1) x ps sp := by
  obtain ⟨fd, F0⟩ := T.d i hd
  have F : FnP K x x st (He.ga K x) fd := F0
  exact ⟨fd, FnP_okS F S len hbody, F.bindsN bnd, F.kp, T.g j hg⟩
end
section
variable {X : Cx} {k j i : Nat} {x : Str} {ps : List Str} {p pos : Pos} {e : Expr} {es : List Expr} {t : TA}
/-- a call of such a def -/
theorem pe_cS {sp : Shared → Sp} (c : CalS X.prog X.w X.K X.mg X.base k x ps sp) (hr : Room j X.A) (hk : k ≤ j) (ha : PA X (e :: es) t) (hg : Gl X x := by rfl) (hdb : (x == ("__debug__" : Str)) = false := by decide)
    (he : starEach (e :: es) X.env = (false, eval e X.env) :: starEach es X.env := by rfl) (hpl : (backTo pos (starEach es X.env)).any (·.1) = false := by rfl) :
    PE X (.Call (.Name x p) (e :: es) [] pos) (fun σ H Q => t σ H fun vs H1 => ∀ pins s', Inv X pins σ H1 s' → sp s' vs H1 Q E0) := by
  obtain ⟨fd, F, b, kp, hm⟩ := c.ex
  refine ⟨fun pins s σ H Q I h => ?_⟩
  refine wpAny_Call_Name_kw (ld_glob I hg hm ?_ hdb)
  refine PySem.W.callWith_K (h₀ := X.base) I.ok.mod.kin kp (thn (ha.run pos pins s σ H _ I h) fun us s1 ⟨vs, H1, I1, r, q⟩ => ⟨I1.kIn, ?_⟩) he hpl
  have q := q pins s1 I1
  have hl : us.length = ps.length := by rw [← r.length]; exact F.len _ _ _ _ _ q
  have hb := b s1 us I1.kIn (by simpa using hl)
  refine wpAny_call (codeAny_mono (F.run X.A X.stack s1 H1 ⟨us, []⟩ us vs Q E0 (hr.mono hk) I1.env0 (by simpa using hb) r q) fun r s' hq => ?_)
  cases r with
  | error e => exact (show False from hq).elim
  | ok fl =>
    cases fl with
    | ret u => exact I1.after hq
    | next => exact False.elim hq
    | brk => exact False.elim hq
    | cont => exact False.elim hq
/-- a call of a function that was handed over -/
theorem pe_clo {f : Addr} {sp : Sp} (C : Clo X.prog X.w X.K X.mg X.base k f sp X.s_0 X.H_0) (hex : X.ex = []) (hr : Room j X.A) (hk : k ≤ j) (hN : X.N[i]? = some x) (hv : Vis X.env.scope x) (ha : PA X (e :: es) t)
    (hd : (x == ("__debug__" : Str)) = false := by decide) (hcd : (x == ("__classdict__" : Str)) = false := by decide)
    (he : starEach (e :: es) X.env = (false, eval e X.env) :: starEach es X.env := by rfl) (hpl : (backTo pos (starEach es X.env)).any (·.1) = false := by rfl) :
    PE X (.Call (.Name x p) (e :: es) [] pos) (fun σ H Q => σ[i]? = some (some (.ref f)) ∧ Same X.H_0 H ∧ t σ H fun vs H1 => Same X.H_0 H1 ∧ sp vs H1 Q E0) := by
  refine ⟨fun pins s σ H Q I h => ?_⟩
  obtain ⟨hs, hS, ht⟩ := h
  have lat : ∀ {pins σ H s}, Inv X pins σ H s → Later X.s_0 X.H_0 s H := fun {pins σ H s} I => ⟨X.fs, by have := I.base; rwa [hex] at this⟩
  refine wpAny_Call_Name_kw (thn ((pe_var (pos := p) hN hv hd hcd).run pins s σ H (fun v H1 => v = .ref f ∧ H1 = H) I ⟨.ref f, hs, rfl, rfl⟩) fun u s1 ⟨v, H1, I1, r1, q1⟩ => ?_)
  obtain ⟨ev, eH⟩ := q1
  subst ev
  rw [eH] at I1
  obtain rfl : u = Value.ref f := r1
  refine PySem.W.callWith_F (first := []) (C.at_ s1 H (lat I1) hS I1.hok) (thn (ha.run pos pins s1 σ H _ I1 ht) fun us s2 ⟨vs, H2, I2, r, h1, q⟩ => ⟨C.at_ s2 H2 (lat I2) h1 I2.hok, ?_⟩) he hpl
  show wpAny _ _ (call (.ref f) us) _ _ _
  refine wpAny_call (codeAny_mono (C.run X.A X.stack s2 H2 us vs Q (lat I2) h1 (hr.mono hk) I2.env0 r q) fun r s' hq => ?_)
  cases r with
  | error e => exact (show False from hq).elim
  | ok fl =>
    cases fl with
    | ret u => exact I2.after hq
    | next => exact False.elim hq
    | brk => exact False.elim hq
    | cont => exact False.elim hq
end
end K81
end
section
set_option Elab.async false
set_option maxRecDepth 100000
set_option maxHeartbeats 4000000
set_option linter.all false
set_option pp.maxSteps 1500
set_option pp.deepTerms false
/-! by_lots -/
namespace K81
open PySem PySem.Spec PyProof.Rows L2 K81M NdefX LamX
abbrev S : Type := List (List Int)
/-- entries of the dict of standings -/
def ents : Nat → List Addr → List S → List NE
  | i, a :: as, x :: o => (x, a, V.int (i : Nat)) :: ents (i + 1) as o
  | _, _, _ => []
theorem ents_len : ∀ {as : List Addr} {o : List S} {i : Nat}, as.length = o.length → (ents i as o).length = o.length
  | [], [], _, _ => rfl
  | a :: as, x :: o, i, h => by
    show (ents (i + 1) as o).length + 1 = o.length + 1
    rw [ents_len (by simpa using h)]
  | [], _ :: _, _, h => by simp at h
  | _ :: _, [], _, h => by simp at h
theorem nGet_pos {x : S} {a : Addr} {v : V} {xs : List NE} : nGet ((x, a, v) :: xs) x = some v := by simp [nGet, List.find?_cons]
theorem nGet_neg {x y : S} {a : Addr} {v : V} {xs : List NE} (h : ¬ x = y) : nGet ((x, a, v) :: xs) y = nGet xs y := by simp [nGet, List.find?_cons, h]
theorem ents_none : ∀ {as : List Addr} {o : List S} {i : Nat} {y : S}, ¬ y ∈ o → nGet (ents i as o) y = none
  | [], _, _, _, _ => by simp [ents, nGet]
  | _ :: _, [], _, _, _ => by simp [ents, nGet]
  | a :: as, x :: o, i, y, h => by
    show nGet ((x, a, V.int (i : Nat)) :: ents (i + 1) as o) y = none
    rw [nGet_neg fun z => h (by rw [z]; exact List.mem_cons_self)]
    exact ents_none fun z => h (List.mem_cons_of_mem _ z)
theorem ents_some : ∀ {as : List Addr} {o : List S} {i : Nat} {y : S}, as.length = o.length → y ∈ o → nGet (ents i as o) y = some (.int ((i + ixOf o y : Nat) : Int))
  | [], [], _, _, _, h => by cases h
  | a :: as, x :: o, i, y, hl, h => by
    show nGet ((x, a, V.int (i : Nat)) :: ents (i + 1) as o) y = _
    by_cases e : x = y
    · subst e
      rw [nGet_pos, ixOf_self, Nat.add_zero]
    · rw [nGet_neg e]
      rcases List.mem_cons.mp h with z | z
      · exact absurd z.symm e
      · rw [ents_some (by simpa using hl) z, ixOf_ne e, show i + 1 + ixOf o y = i + (ixOf o y + 1) by omega]
  | [], _ :: _, _, _, h, _ => by simp at h
  | _ :: _, [], _, _, h, _ => by simp at h
theorem ents_snoc : ∀ {as : List Addr} {o : List S} {i : Nat} {a : Addr} {x : S}, as.length = o.length → ents i (as ++ [a]) (o ++ [x]) = ents i as o ++ [(x, a, V.int ((i + o.length : Nat) : Int))]
  | [], [], _, _, _, _ => rfl
  | b :: as, y :: o, i, a, x, h => by
    show (y, b, V.int (i : Nat)) :: ents (i + 1) (as ++ [a]) (o ++ [x]) = ((y, b, V.int (i : Nat)) :: ents (i + 1) as o) ++ [_]
    rw [ents_snoc (by simpa using h), List.cons_append, List.length_cons, show i + 1 + o.length = i + (o.length + 1) by omega]
  | [], _ :: _, _, _, _, h => by simp at h
  | _ :: _, [], _, _, _, h => by simp at h
theorem ents_ks {H : Hp} : ∀ {as : List Addr} {o : List S} {i : Nat}, Paired (fun a x => TT H a x) as o → Ks H (ents i as o)
  | _, _, _, .nil => fun x hx => by cases hx
  | _, _, i, .cons h t => fun x hx => by
    rcases List.mem_cons.mp hx with e | hx
    · subst e
      exact h
    · exact ents_ks t x hx
/-- rows told so far: of the first n of o -/
structure RowsOk (m : Nat) (step : S → Nat → S) (o : List S) (n : Nat) (R : List (List Nat)) : Prop where
  len : R.length = n
  all : ∀ (i : Nat) (r : List Nat), R[i]? = some r → ∃ x, o[i]? = some x ∧ (∀ y ∈ nextS m step x, y ∈ o) ∧ r = (nextS m step x).map (ixOf o)
theorem RowsOk.ext {m : Nat} {step : S → Nat → S} {o t : List S} {n : Nat} {R : List (List Nat)} (h : RowsOk m step o n R) : RowsOk m step (o ++ t) n R := by
  refine ⟨h.len, fun i r e => ?_⟩
  obtain ⟨x, h1, h2, h3⟩ := h.all i r e
  refine ⟨x, by rw [List.getElem?_append_left (List.getElem?_eq_some_iff.mp h1).1]; exact h1, fun y hy => List.mem_append_left _ (h2 y hy), ?_⟩
  rw [h3]
  exact List.map_congr_left fun y hy => (ixOf_app (h2 y hy)).symm
theorem RowsOk.snoc {m : Nat} {step : S → Nat → S} {o : List S} {n : Nat} {R : List (List Nat)} {x : S} (h : RowsOk m step o n R) (hx : o[n]? = some x) (hy : ∀ y ∈ nextS m step x, y ∈ o) : RowsOk m step o (n + 1) (R ++ [(nextS m step x).map (ixOf o)]) := by
  refine ⟨by rw [List.length_append, h.len] <;> rfl, fun i r e => ?_⟩
  by_cases hi : i < R.length
  · rw [List.getElem?_append_left hi] at e
    exact h.all i r e
  · rw [List.getElem?_append_right (by omega)] at e
    have h1 : i - R.length = 0 := by
      have := (List.getElem?_eq_some_iff.mp e).1
      simp at this
      omega
    rw [h1] at e
    have e2 := Option.some.inj e
    have hin : i = n := by have := h.len; omega
    subst hin
    exact ⟨x, hx, hy, e2.symm⟩
theorem RowsOk.done {m : Nat} {step : S → Nat → S} {o : List S} {R : List (List Nat)} (h : RowsOk m step o o.length R) : R = madeSt m step o := by
  refine List.ext_getElem? fun i => ?_
  unfold madeSt
  rw [List.getElem?_map]
  cases e : R[i]? with
  | none =>
    have h1 := List.getElem?_eq_none_iff.mp e
    rw [List.getElem?_eq_none (by rw [← h.len]; exact h1)] <;> rfl
  | some r =>
    obtain ⟨x, h1, _, h3⟩ := h.all i r e
    rw [h1, h3] <;> rfl
/-- which of the first n are ends -/
def enOf (isl : S → Bool) (o : List S) (n : Nat) : List Nat := (List.range n).filter fun i => match o[i]? with
  | some x => isl x
  | none => false
theorem enOf_ext {isl : S → Bool} {o t : List S} {n : Nat} (h : n ≤ o.length) : enOf isl (o ++ t) n = enOf isl o n := by
  unfold enOf
  refine List.filter_congr fun i hi => ?_
  rw [List.getElem?_append_left (by have := List.mem_range.mp hi; omega)]
theorem enOf_succ {isl : S → Bool} {o : List S} {n : Nat} {x : S} (h : o[n]? = some x) : enOf isl o (n + 1) = if isl x = true then enOf isl o n ++ [n] else enOf isl o n := by
  unfold enOf
  rw [List.range_succ, List.filter_append]
  by_cases c : isl x = true
  · simp [h, c]
  · simp [h, c]
theorem tt_upd {H : Hp} {p a : Addr} {o0 o : HO} {x : S} (h : TT H a x) (hp : H p = some o0) (n : ∀ xs, o0 ≠ .tup xs) : TT (upd H p o) a x := by
  obtain ⟨as, h1, h2⟩ := h
  have go : ∀ b xs, H b = some (.tup xs) → upd H p o b = some (.tup xs) := fun b xs e => by
    rw [upd_ne (fun z => by rw [z, hp] at e; exact n xs (Option.some.inj e))]
    exact e
  exact ⟨as, go _ _ h1, Paired.mono h2 fun _ _ e => go _ _ e⟩
/-- the loop's objects -/
structure LS (P : Program) (w : World) (H0 H : Hp) (fa pa sa ea : Addr) (o : List S) (as : List Addr) (R : List (List Nat)) (bs : List Addr) (es : List Nat) : Prop where
  same : Same H0 H
  found : H fa = some (.lst (as.map V.ref))
  pf : Paired (fun a x => TT H a x) as o
  place : H pa = some (DN P w pa (ents 0 as o))
  steps : H sa = some (.lst (bs.map V.ref))
  rows : Paired (fun b (r : List Nat) => H b = some (.lst ((toI r).map V.int)) ∧ b ≠ fa ∧ b ≠ pa ∧ b ≠ sa ∧ b ≠ ea) bs R
  ends : H ea = some (.lst ((toI es).map V.int))
/-- four new places -/
structure New4 (H0 : Hp) (fa pa sa ea : Addr) : Prop where
  f : H0 fa = none
  p : H0 pa = none
  s : H0 sa = none
  e : H0 ea = none
  fp : fa ≠ pa
  fs : fa ≠ sa
  fe : fa ≠ ea
  ps : pa ≠ sa
  pe : pa ≠ ea
  se : sa ≠ ea
theorem dn_tup {P : Program} {w : World} {a : Addr} {xs : List NE} (ys : List V) : DN P w a xs ≠ .tup ys := fun z => by unfold DN at z; cases z
section
variable {P : Program} {w : World} {H0 H H' : Hp} {fa pa sa ea : Addr} {o : List S} {as : List Addr} {R : List (List Nat)} {bs : List Addr} {es : List Nat}
theorem LS.mono (l : LS P w H0 H fa pa sa ea o as R bs es) (e : Same H H') : LS P w H0 H' fa pa sa ea o as R bs es :=
  ⟨l.same.trans e, e _ _ l.found, Paired.mono l.pf fun _ _ q => q.mono e, e _ _ l.place, e _ _ l.steps, Paired.mono l.rows fun _ _ q => ⟨e _ _ q.1, q.2⟩, e _ _ l.ends⟩
theorem LS.len (l : LS P w H0 H fa pa sa ea o as R bs es) : as.length = o.length := Paired.len l.pf
/-- an end more -/
theorem LS.addE (l : LS P w H0 H fa pa sa ea o as R bs es) (N : New4 H0 fa pa sa ea) (es' : List Nat) : LS P w H0 (upd H ea (.lst ((toI es').map V.int))) fa pa sa ea o as R bs es' :=
  ⟨same_mut l.same N.e, by rw [upd_ne N.fe]; exact l.found, Paired.mono l.pf fun _ _ q => tt_upd q l.ends (fun xs z => nomatch z), by rw [upd_ne N.pe]; exact l.place, by rw [upd_ne N.se]; exact l.steps,
    Paired.mono l.rows fun _ _ q => ⟨by rw [upd_ne q.2.2.2.2]; exact q.1, q.2⟩, upd_same⟩
/-- a row more -/
theorem LS.addR (l : LS P w H0 H fa pa sa ea o as R bs es) (N : New4 H0 fa pa sa ea) {b : Addr} {r : List Nat} (hb : H b = some (.lst ((toI r).map V.int))) (h1 : b ≠ fa) (h2 : b ≠ pa) (h3 : b ≠ sa) (h4 : b ≠ ea) : LS P w H0 (upd H sa (.lst (bs.map V.ref ++ [V.ref b]))) fa pa sa ea o as (R ++ [r]) (bs ++ [b]) es :=
  ⟨same_mut l.same N.s, by rw [upd_ne N.fs]; exact l.found, Paired.mono l.pf fun _ _ q => tt_upd q l.steps (fun xs z => nomatch z), by rw [upd_ne N.ps]; exact l.place, by rw [upd_same, List.map_append] <;> rfl,
    Paired.snoc (Paired.mono l.rows fun _ _ q => ⟨by rw [upd_ne q.2.2.2.1]; exact q.1, q.2⟩) ⟨by rw [upd_ne h3]; exact hb, h1, h2, h3, h4⟩, by rw [upd_ne N.se.symm]; exact l.ends⟩
/-- the row in the making changes -/
theorem LS.mut (l : LS P w H0 H fa pa sa ea o as R bs es) {b : Addr} {xs : List V} {u : HO} (hb : H b = some (.lst xs)) (h0 : H0 b = none) (h1 : b ≠ fa) (h2 : b ≠ pa) (h3 : b ≠ sa) (h4 : b ≠ ea) (h5 : ∀ c ∈ bs, c ≠ b) : LS P w H0 (upd H b u) fa pa sa ea o as R bs es := by
  refine ⟨same_mut l.same h0, by rw [upd_ne h1.symm]; exact l.found, Paired.mono l.pf fun _ _ q => tt_upd q hb (fun xs z => nomatch z), by rw [upd_ne h2.symm]; exact l.place, by rw [upd_ne h3.symm]; exact l.steps, ?_, by rw [upd_ne h4.symm]; exact l.ends⟩
  have go : ∀ {l1 : List Addr} {l2 : List (List Nat)}, (∀ c ∈ l1, c ≠ b) → Paired (fun c (r : List Nat) => H c = some (.lst ((toI r).map V.int)) ∧ c ≠ fa ∧ c ≠ pa ∧ c ≠ sa ∧ c ≠ ea) l1 l2 → Paired (fun c (r : List Nat) => upd H b u c = some (.lst ((toI r).map V.int)) ∧ c ≠ fa ∧ c ≠ pa ∧ c ≠ sa ∧ c ≠ ea) l1 l2 := by
    intro l1 l2 hc p
    induction p with
    | nil => exact .nil
    | cons q t ih => exact .cons ⟨by rw [upd_ne (hc _ List.mem_cons_self)]; exact q.1, q.2⟩ (ih fun c h => hc c (List.mem_cons_of_mem _ h))
  exact go h5 l.rows
/-- a standing more -/
theorem LS.addS (l : LS P w H0 H fa pa sa ea o as R bs es) (N : New4 H0 fa pa sa ea) {b : Addr} {y : S} (hb : TT H b y) :
    LS P w H0 (upd (upd H pa (DN P w pa (ents 0 as o ++ [(y, b, V.int ((o.length : Nat) : Int))]))) fa (.lst (as.map V.ref ++ [V.ref b]))) fa pa sa ea (o ++ [y]) (as ++ [b]) R bs es := by
  have f1 : (upd H pa (DN P w pa (ents 0 as o ++ [(y, b, V.int ((o.length : Nat) : Int))]))) fa = some (.lst (as.map V.ref)) := by rw [upd_ne N.fp]; exact l.found
  have tt : ∀ {a x}, TT H a x → TT (upd (upd H pa (DN P w pa (ents 0 as o ++ [(y, b, V.int ((o.length : Nat) : Int))]))) fa (.lst (as.map V.ref ++ [V.ref b]))) a x := fun q => tt_upd (tt_upd q l.place dn_tup) f1 (fun xs z => nomatch z)
  refine ⟨same_mut (same_mut l.same N.p) N.f, by rw [upd_same, List.map_append] <;> rfl, Paired.snoc (Paired.mono l.pf fun _ _ q => tt q) (tt hb), ?_, by rw [upd_ne N.fs.symm, upd_ne N.ps.symm]; exact l.steps, Paired.mono l.rows fun _ _ q => ⟨by rw [upd_ne q.2.1, upd_ne q.2.2.1]; exact q.1, q.2⟩, by rw [upd_ne N.fe.symm, upd_ne N.pe.symm]; exact l.ends⟩
  rw [upd_ne N.fp.symm, upd_same, ents_snoc l.len, Nat.zero_add]
end
section
variable {P : Program} {w : World} {K : PySem.W.Frag} {mg : Str → Option Value} {base : Heap}
def spStep (step : S → Nat → S) (U : List S) (m : Nat) : Sp := fun vs H Q _ => ∃ (b : Addr) (l : Nat) (x : S), vs = [.ref b, .int (l : Int)] ∧ TT H b x ∧ x ∈ U ∧ l < m ∧ ∀ H' b', Same H H' → TT H' b' (step x l) → Q (.ref b') H'
def spLet (isl : S → Bool) (U : List S) : Sp := fun vs H Q _ => ∃ (b : Addr) (x : S), vs = [.ref b] ∧ TT H b x ∧ x ∈ U ∧ ∀ H', Same H H' → Q (.bl (isl x)) H'
def spByLots (P : Program) (w : World) (K : PySem.W.Frag) (mg : Str → Option Value) (base : Heap) : Shared → Sp := fun s vs H Q _ => ∃ (b fS fL : Addr) (m : Nat) (x0 : S) (step : S → Nat → S) (isl : S → Bool) (U : List S), vs = [.int (m : Int), .ref b, .ref fS, .ref fL] ∧ 1 ≤ m ∧ m ≤ 3 ∧
  TT H b x0 ∧ x0 ∈ U ∧ (∀ x ∈ U, ∀ l, l < m → step x l ∈ U) ∧ U.length ≤ 1000000 ∧ Clo P w K mg base 8 fS (spStep step U m) s H ∧ Clo P w K mg base 8 fL (spLet isl U) s H ∧ (∀ st' en', Canon m (stdL m step isl x0) st' en' → st'.length ≤ 60) ∧
  ∀ H' p st' en', Same H H' → Mach K H' p m st' en' → Canon m (stdL m step isl x0) st' en' → Q (.ref p) H'
abbrev nmLots : List Str := ["letters", "begin", "step", "is_let", "found", "place", "steps", "ends", "at", "here", "row", "letter", "following"]
theorem scByLots : FnScope nmLots ["letters", "begin", "step", "is_let"] (defScope sByLots) := ⟨rfl, rfl, rfl, by decide +kernel, rfl, by decide +kernel, by decide +kernel⟩
theorem c_by_lots (T : Txt K mg) : CalS P w K mg base 9 "by_lots" ["letters", "begin", "step", "is_let"] (spByLots P w K mg base) := by
  refine calS sByLots T 21 19 rfl rfl scByLots (fun _ _ _ _ _ _ us hl => match us, hl with | [_, _, _, _], _ => rfl) (fun s vs H Q E h => ?_) (fun cdv A outer s H vs Q E hr h => ?_)
  · obtain ⟨b, fS, fL, m, x0, step, isl, U, rfl, _⟩ := h
    rfl
  · obtain ⟨b, fS, fL, m, x0, step, isl, U, rfl, m1, m3, hb, hx0, hU, hUl, cS, cL, h60, k⟩ := h
    have hu : (cxOf CX0 P w K mg base nmLots "by_lots" (defScope sByLots) (He.ga K "by_lots") cdv A outer s H E).nox.A.units + 12 < cLine := by have := hr.units; show (A.deeper _).units + 12 < cLine; omega
    have nd := scByLots.nd
    refine ⟨_, pss_cons (ps_asg (pe_tup (pa_cons (pe_lst (pa_cons (pv 1) pa_nil)) (pa_cons (pe_ndisp hu (pv 1) pe_int) (pa_cons (pe_lst pa_nil) (pa_cons (pe_lst pa_nil) (pa_cons pe_int pa_nil))))))
        (pg_tup rfl (pgs_cons (pg_name (i := 4) nd rfl (Or.inl rfl)) (pgs_cons (pg_name (i := 5) nd rfl (Or.inl rfl)) (pgs_cons (pg_name (i := 6) nd rfl (Or.inl rfl)) (pgs_cons (pg_name (i := 7) nd rfl (Or.inl rfl)) (pgs_cons (pg_name (i := 8) nd rfl (Or.inl rfl)) pgs_nil)))))))
      (pss_cons (ps_while PassesOwn.never (pt_cmpR op_lt (pv 8) (pe_callB call_len_seq (by rfl) (T.f 0 rfl) boot_len (pa_cons (pv 4) pa_nil)) (nomark _))
        (pss_cons (ps_par (i := 9) (j := 10) rfl nd rfl rfl (by decide) rfl rfl (pa_cons (pe_ix ix_list (pv 4) (pv 8) (fun _ _ => rfl)) (pa_cons (pe_lst pa_nil) pa_nil)) (by rfl))
        (C8.pss_cut (ps_if (pt_val (pe_clo (i := 3) cL rfl hr (by decide) rfl (Or.inl rfl) (pa_cons (pv 9) pa_nil))) (pss_one (ps_expr (pe_bm PySem.F.plainAttrs_list PySem.F.slot_list_append PySem.F.type_list_append mt_append (pv 7) (pa_cons (pv 8) pa_nil)))) pss_nil)
        (pss_cons (ps_for PassesOwn.never rfl (pi_range1 rfl (T.f 12 rfl) (pa_cons (pv 0) pa_nil)) (pg_name (i := 11) nd rfl (Or.inl rfl))
          (pss_cons (ps_set (i := 12) nd rfl (Or.inl rfl) (pe_clo (i := 2) cS rfl hr (by decide) rfl (Or.inl rfl) (pa_cons (pv 9) (pa_cons (pv 11) pa_nil))))
          (C8.pss_cut (ps_if (pt_cmp (pc_nnotin hu (pv 12) (pv 5)))
            (pss_cons (ps_nput hu (pv 5) (pv 12) (pe_callB call_len_seq (by rfl) (T.f 0 rfl) boot_len (pa_cons (pv 4) pa_nil)) rfl)
              (pss_one (ps_expr (pe_bm PySem.F.plainAttrs_list PySem.F.slot_list_append PySem.F.type_list_append mt_append (pv 4) (pa_cons (pv 12) pa_nil))))) pss_nil)
          (pss_one (ps_expr (pe_bm PySem.F.plainAttrs_list PySem.F.slot_list_append PySem.F.type_list_append mt_append (pv 10) (pa_cons (pe_nget hu (pv 5) (pv 12) (fun _ _ => rfl)) pa_nil)))))))
        (pss_cons (ps_expr (pe_bm PySem.F.plainAttrs_list PySem.F.slot_list_append PySem.F.type_list_append mt_append (pv 6) (pa_cons (pv 10) pa_nil)))
        (pss_one (ps_set (i := 8) nd rfl (Or.inl rfl) (pe_op op_add (pv 8) pe_int))))))))
      (pss_one (ps_ret (pe_c (c_least T) hr (by decide) (pa_cons (pv 0) (pa_cons (pv 6) (pa_cons (pv 7) pa_nil))))))), ?_⟩
    refine ⟨_, rfl, by show 1 ≤ sizeLine; decide, fun fa hfa pa hpa => ⟨_, rfl, b, x0, rfl, upd_same, ?_, by show 0 ≤ sizeLine; decide, fun sa hsa => ⟨by show 0 ≤ sizeLine; decide, fun ea hea => ⟨by show 5 ≤ sizeLine; decide, fun tp htp => ⟨tp, _, rfl, SqT.of upd_same, rfl, _, _, rfl, _, _, rfl, _, _, rfl, _, _, rfl, _, _, rfl, rfl, ?_⟩⟩⟩⟩⟩
    · exact (hb.mono (same_new hfa)).mono (same_new hpa)
    have q1 := same_new (o := HO.lst [V.ref b]) hfa
    have q2 := same_mut (o := DN P w pa [(x0, b, V.int 0)]) (same_new (o := DN P w pa []) hpa) hpa
    have q3 := same_new (o := HO.lst []) hsa
    have q4 := same_new (o := HO.lst []) hea
    have q5 := same_new (o := HO.tup [V.ref fa, V.ref pa, V.ref sa, V.ref ea, V.int 0]) htp
    have g1 : upd H fa (HO.lst [V.ref b]) fa = some (HO.lst [V.ref b]) := upd_same
    have g2 : upd (upd (upd H fa (HO.lst [V.ref b])) pa (DN P w pa [])) pa (DN P w pa [(x0, b, V.int 0)]) pa = some (DN P w pa [(x0, b, V.int 0)]) := upd_same
    have hpaH : H pa = none := Same.none q1 hpa
    have q12 := q1.trans q2
    have q13 := Same.trans q12 q3
    have hsaH : H sa = none := Same.none q12 hsa
    have heaH : H ea = none := Same.none q13 hea
    have n1 : fa ≠ sa := ne_of_none (q2 _ _ g1) hsa
    have n2 : pa ≠ sa := ne_of_none g2 hsa
    have n3 : fa ≠ ea := ne_of_none (q3 _ _ (q2 _ _ g1)) hea
    have n4 : pa ≠ ea := ne_of_none (q3 _ _ g2) hea
    have n5 : sa ≠ ea := ne_of_none upd_same hea
    have N : New4 H fa pa sa ea := ⟨hfa, hpaH, hsaH, heaH, ne_of_none g1 hpa, n1, n3, n2, n4, n5⟩
    have qe := Same.trans q13 (Same.trans q4 q5)
    have L0 : LS P w H _ fa pa sa ea [x0] [b] [] [] (enOf isl [x0] 0) :=
      ⟨qe, q5 _ _ (q4 _ _ (q3 _ _ (q2 _ _ g1))), .cons (hb.mono qe) .nil, q5 _ _ (q4 _ _ (q3 _ _ g2)), q5 _ _ (q4 _ _ upd_same), .nil, q5 _ _ upd_same⟩
    refine while_my (fun σ H' => ∃ (o : List S) (as : List Addr) (n : Nat) (R : List (List Nat)) (bs : List Addr) (v9 v10 v11 v12 : Option V), σ = [some (.int (m : Int)), some (.ref b), some (.ref fS), some (.ref fL), some (.ref fa), some (.ref pa), some (.ref sa), some (.ref ea), some (.int (n : Int)), v9, v10, v11, v12] ∧ LS P w H H' fa pa sa ea o as R bs (enOf isl o n) ∧
        o.Nodup ∧ (∀ x ∈ o, x ∈ U) ∧ RowsOk m step o n R ∧ n ≤ o.length ∧ ∀ r, Bfs (nextS m step) o n r → Bfs (nextS m step) [x0] 0 r)
      (fun σ H' => U.length - slotN σ 8) ⟨[x0], [b], 0, [], [], none, none, none, none, rfl, L0, List.nodup_cons.mpr ⟨by simp, List.nodup_nil⟩, fun x hx => by rw [List.mem_singleton.mp hx]; exact hx0, ⟨rfl, fun i r e => by simp at e⟩, Nat.zero_le _, fun r h => h⟩ ?_
    rintro σ H1 ⟨o, as, n, R, bs, v9, v10, v11, v12, rfl, L, ndo, hoU, hRows, hn, cont⟩
    have olen : o.length ≤ U.length := nodup_le ndo hoU
    have asl := L.len
    refine ⟨_, rfl, _, rfl, fa, _, rfl, .inl (SqL.of L.found), _, _, rfl, rfl, _, rfl, ?_⟩
    rw [List.length_map, asl]
    refine ite2 (fun c => ?_) (fun c => ?_)
    · have hlt : n < o.length := by have := of_decide_eq_true c; omega
      have hx : o[n]? = some o[n] := List.getElem?_eq_getElem hlt
      generalize o[n] = x at hx
      have hxU : x ∈ U := hoU _ (List.mem_of_getElem? hx)
      obtain ⟨an, ha, hT⟩ := Paired.get' L.pf hx
      refine ⟨_, turn_my, ?_⟩
      refine ⟨_, rfl, _, rfl, fa, _, _, _, rfl, rfl, SqL.of L.found, atI_nat (refs_at ha), by show 0 ≤ sizeLine; decide, fun ra hra => ⟨_, _, rfl, ?_⟩⟩
      have hraH : H ra = none := Same.none L.same hra
      have r1 : ra ≠ fa := (ne_of_none L.found hra).symm
      have r2 : ra ≠ pa := (ne_of_none L.place hra).symm
      have r3 : ra ≠ sa := (ne_of_none L.steps hra).symm
      have r4 : ra ≠ ea := (ne_of_none L.ends hra).symm
      have r5 : ∀ c ∈ bs, c ≠ ra := fun c hc => by
        obtain ⟨i, hi⟩ := List.mem_iff_getElem?.mp hc
        obtain ⟨r, _, h2⟩ := Paired.get L.rows hi
        exact ne_of_none h2.1 hra
      have s1 : Same H1 (upd H1 ra (.lst [])) := same_new hra
      have L1 := L.mono s1
      have hra1 : (upd H1 ra (.lst [])) ra = some (.lst []) := upd_same
      generalize upd H1 ra (.lst []) = H2 at s1 L1 hra1 ⊢
      -- if is_let(here): ends.append(at)
      refine ⟨fun σ' H' => σ' = [some (.int (m : Int)), some (.ref b), some (.ref fS), some (.ref fL), some (.ref fa), some (.ref pa), some (.ref sa), some (.ref ea), some (.int (n : Int)), some (.ref an), some (.ref ra), v11, v12] ∧ LS P w H H' fa pa sa ea o as R bs (enOf isl o (n + 1)) ∧ TT H' an x ∧ H' ra = some (.lst []), ?_, ?_⟩
      · refine ⟨rfl, L1.same, _, rfl, L1.same, an, x, rfl, hT.mono s1, hxU, fun H3 s2 => ⟨isl x, rfl, ?_⟩⟩
        have L3 := L1.mono s2
        have hT3 := (hT.mono s1).mono s2
        refine ite2 (fun d => ?_) (fun d => ?_)
        · refine ⟨_, rfl, .inl ⟨rfl, _, SqL.of L3.ends⟩, _, rfl, ea, _, _, rfl, rfl, L3.ends, ?_, rfl, ?_, ?_, ?_⟩
          · rw [ivs_len, sizeLine_eq]
            have : (enOf isl o n).length ≤ n := by have := List.length_filter_le (fun i => match o[i]? with | some x => isl x | none => false) (List.range n); rwa [List.length_range] at this
            omega
          · have := L3.addE N (enOf isl o n ++ [n])
            rw [enOf_succ hx, if_pos d, ← ivs_snoc]
            exact this
          · exact tt_upd hT3 L3.ends (fun xs z => nomatch z)
          · rw [upd_ne r4]
            exact s2 _ _ hra1
        · refine ⟨rfl, ?_, hT3, s2 _ _ hra1⟩
          rw [enOf_succ hx, if_neg d]
          exact L3
      rintro σ' H3 ⟨rfl, L3, hT3, hra3⟩
      -- for letter in range(letters)
      refine ⟨_, rfl, (m : Int), rfl, by omega, by omega, ?_⟩
      refine for_it (walk_range (lo := 0) (n := m)) (fun i σ' H' => ∃ (o' : List S) (as' : List Addr) (v11 v12 : Option V), σ' = [some (.int (m : Int)), some (.ref b), some (.ref fS), some (.ref fL), some (.ref fa), some (.ref pa), some (.ref sa), some (.ref ea), some (.int (n : Int)), some (.ref an), some (.ref ra), v11, v12] ∧ LS P w H H' fa pa sa ea o' as' R bs (enOf isl o (n + 1)) ∧ TT H' an x ∧
          o'.Nodup ∧ (∀ y ∈ o', y ∈ U) ∧ o' = addAll o ((nextS m step x).take i) ∧ H' ra = some (.lst ((toI (((nextS m step x).take i).map (ixOf o'))).map V.int)))
        ⟨o, as, v11, v12, rfl, L3, hT3, ndo, hoU, rfl, hra3⟩ (fun _ _ _ _ _ => trivial) ?_ ?_
      · rintro i xv σ' _ H4 hi ⟨o', as', v11, v12, rfl, L4, hT4, nd4, hU4, ho4, hra4⟩ ⟨rfl, hxv⟩
        have hxv : xv = V.int (i : Int) := hxv.trans (congrArg V.int (Int.zero_add _))
        subst hxv
        have hy : (nextS m step x)[i]? = some (step x i) := by
          unfold nextS
          rw [List.getElem?_map, List.getElem?_range hi] <;> rfl
        refine ⟨rfl, L4.same, _, rfl, _, rfl, L4.same, an, i, x, rfl, hT4, hxU, hi, fun H5 yb s5 hTy => ?_⟩
        have L5 := L4.mono s5
        have hT5 := hT4.mono s5
        have hra5 := s5 _ _ hra4
        have hyU := hU x hxU i hi
        have asl5 := L5.len
        have olen5 : o'.length ≤ U.length := nodup_le nd4 hU4
        -- if following not in place
        refine ⟨fun σ' H' => ∃ (as2 : List Addr), σ' = [some (.int (m : Int)), some (.ref b), some (.ref fS), some (.ref fL), some (.ref fa), some (.ref pa), some (.ref sa), some (.ref ea), some (.int (n : Int)), some (.ref an), some (.ref ra), some (.int (i : Int)), some (.ref yb)] ∧ LS P w H H' fa pa sa ea (addAll o' [step x i]) as2 R bs (enOf isl o (n + 1)) ∧ TT H' an x ∧ TT H' yb (step x i) ∧ H' ra = some (.lst ((toI (((nextS m step x).take i).map (ixOf o'))).map V.int)), ?_, ?_⟩
        · refine ⟨_, rfl, _, rfl, pa, yb, _, step x i, rfl, rfl, L5.place, ents_ks L5.pf, hTy, _, rfl, ?_⟩
          by_cases d : step x i ∈ o'
          · rw [ents_some asl5 d]
            refine iteF ⟨as', rfl, ?_, hT5, hTy, hra5⟩
            rw [addAll_cons, if_pos d]
            exact L5
          · rw [ents_none d]
            have L6 := L5.addS N hTy
            refine iteT ⟨_, rfl, fa, _, rfl, .inl (SqL.of L5.found), _, rfl, _, rfl, pa, yb, _, step x i, rfl, rfl, L5.place, ents_ks L5.pf, hTy, ents_none d, by rw [ents_len asl5, sizeLine_eq]; omega, ?_⟩
            rw [List.length_map, asl5]
            refine ⟨_, rfl, .inl ⟨rfl, _, SqL.of (by rw [upd_ne N.fp]; exact L5.found)⟩, _, rfl, fa, _, _, rfl, rfl, by rw [upd_ne N.fp]; exact L5.found, by rw [List.length_map, asl5, sizeLine_eq]; omega, as' ++ [yb], rfl, ?_, ?_, ?_, ?_⟩
            · rw [addAll_cons, if_neg d]
              exact L6
            · exact tt_upd (o0 := .lst (as'.map V.ref)) (tt_upd hT5 L5.place dn_tup) (by rw [upd_ne N.fp]; exact L5.found) (fun xs z => nomatch z)
            · exact tt_upd (o0 := .lst (as'.map V.ref)) (tt_upd hTy L5.place dn_tup) (by rw [upd_ne N.fp]; exact L5.found) (fun xs z => nomatch z)
            · rw [upd_ne r1, upd_ne r2]
              exact hra5
        rintro σ' H6 ⟨as2, rfl, L6, hT6, hTy6, hra6⟩
        have hin : step x i ∈ addAll o' [step x i] := (addAll_mem _ _ _).mpr (.inr List.mem_cons_self)
        have eo : addAll o ((nextS m step x).take (i + 1)) = addAll o' [step x i] := by
          rw [List.take_add_one, hy, addAll_append, ← ho4] <;> rfl
        refine ⟨_, rfl, .inl ⟨rfl, _, SqL.of hra6⟩, _, rfl, _, rfl, pa, yb, _, step x i, _, rfl, rfl, L6.place, ents_ks L6.pf, hTy6, ents_some L6.len hin, ra, _, _, rfl, rfl, hra6, ?_, addAll o' [step x i], as2, _, _, rfl, L6.mut hra6 hraH r1 r2 r3 r4 r5, tt_upd hT6 hra6 (fun xs z => nomatch z), addAll_nodup _ _ nd4, fun y hy2 => ?_, eo.symm, ?_⟩
        · rw [ivs_len, List.length_map, List.length_take, sizeLine_eq]
          omega
        · rcases (addAll_mem _ _ _).mp hy2 with z | z
          · exact hU4 y z
          · rw [List.mem_singleton.mp z]
            exact hyU
        · rw [upd_same, List.take_add_one, hy, List.map_append, Nat.zero_add]
          have e1 : ((nextS m step x).take i).map (ixOf (addAll o' [step x i])) = ((nextS m step x).take i).map (ixOf o') := by
            obtain ⟨t, ht⟩ := addAll_pre [step x i] o'
            rw [ht]
            refine List.map_congr_left fun y hy3 => ixOf_app ?_
            rw [ho4]
            exact (addAll_mem _ _ _).mpr (.inr hy3)
          rw [e1]
          simp [toI]
      rintro σ' H4 ⟨o', as', v11', v12', rfl, L4, hT4, nd4, hU4, ho4, hra4⟩
      have nl : (nextS m step x).length = m := by unfold nextS; rw [List.length_map, List.length_range]
      rw [List.take_of_length_le (by omega)] at ho4 hra4
      have L5 := L4.addR N hra4 r1 r2 r3 r4
      obtain ⟨t, ht⟩ := addAll_pre (nextS m step x) o
      have hx' : o'[n]? = some x := by
        rw [ho4, ht, List.getElem?_append_left hlt]
        exact hx
      have bsl : bs.length = n := by rw [Paired.len L4.rows, hRows.len]
      refine ⟨_, rfl, .inl ⟨rfl, _, SqL.of L4.steps⟩, _, rfl, sa, _, _, rfl, rfl, L4.steps, by rw [List.length_map, bsl, sizeLine_eq]; omega, ?_⟩
      refine ⟨_, rfl, _, _, rfl, rfl, ⟨o', as', n + 1, R ++ [(nextS m step x).map (ixOf o')], bs ++ [ra], some (.ref an), some (.ref ra), v11', v12', ?_, ?_, nd4, hU4, ?_, ?_, fun r hr => cont r (.step hx (by rw [← ho4]; exact hr))⟩, ?_⟩
      · rw [show ((n + 1 : Nat) : Int) = (n : Int) + 1 by omega] <;> rfl
      · have e2 : enOf isl o' (n + 1) = enOf isl o (n + 1) := by
          rw [ho4, ht]
          exact enOf_ext (by omega)
        rw [e2]
        exact L5
      · have h1 : RowsOk m step o' n R := by
          rw [ho4, ht]
          exact hRows.ext
        exact h1.snoc hx' fun y hy => by rw [ho4]; exact (addAll_mem _ _ _).mpr (.inr hy)
      · have := (List.getElem?_eq_some_iff.mp hx').1
        omega
      · show U.length - ((n : Int) + 1).toNat < U.length - (n : Int).toNat
        omega
    · have hne : ¬ n < o.length := fun z => c (decide_eq_true (by omega))
      have hno : n = o.length := by omega
      subst hno
      have B := cont o (.done (Nat.le_refl _))
      have eR := hRows.done
      have hV := made_valid (isl := isl) B
      have hLang := made_lang (isl := isl) B
      have eE : enOf isl o o.length = madeEn isl o := by
        unfold enOf madeEn
        exact List.filter_congr fun i _ => by cases o[i]? <;> rfl
      have hrows : Rows K H1 sa (toR R) := ⟨bs, .inl (SqL.of L.steps), by
        have go : ∀ {l1 : List Addr} {l2 : List (List Nat)}, Paired (fun b (r : List Nat) => H1 b = some (.lst ((toI r).map V.int)) ∧ b ≠ fa ∧ b ≠ pa ∧ b ≠ sa ∧ b ≠ ea) l1 l2 → Paired (fun b (r : List Int) => Sq K H1 b (r.map V.int)) l1 (toR l2) := by
          intro l1 l2 p
          induction p with
          | nil => exact .nil
          | cons q t ih => exact .cons (.inl (SqL.of q.1)) ih
        exact go L.rows⟩
      have hlen : R.length = o.length := hRows.len
      rw [eE] at L
      have few : (madeEn isl o).length ≤ o.length := by
        have h1 := List.length_filter_le (fun i => match o[i]? with | some x => isl x | none => false) (List.range o.length)
        rw [List.length_range] at h1
        rw [← eE]
        exact h1
      rw [eR] at hrows hlen
      refine ⟨_, rfl, _, rfl, _, rfl, sa, ea, m, madeSt m step o, madeEn isl o, rfl, hrows, ⟨hV.pos, hV.row, by omega, m3⟩, m1, .inl (SqL.of L.ends), hV.en, by omega, ?_, fun H' p st' en' s1 hM hC => ?_⟩
      · intro st' en' hC
        rw [hLang] at hC
        exact h60 st' en' hC
      · rw [hLang] at hC
        exact k H' p st' en' (L.same.trans s1) hM hC
end
end K81
end
section
set_option Elab.async false
set_option maxRecDepth 100000
set_option maxHeartbeats 4000000
set_option linter.all false
set_option pp.maxSteps 1500
set_option pp.deepTerms false
/-! A def within a def whose parameters may be cells of its own. -/
namespace K81
open PySem PySem.Spec PyProof.Rows L2 K81M NdefX LamX
/-! ### the frame -/
theorem cellsFrom_app : ∀ (names : List (Str × NameKind)) (n : Nat) (a b : List (Str × Addr)), cellsFrom n names (a ++ b) = cellsFrom n names a ++ b
  | [], _, _, _ => rfl
  | (x, k) :: r, n, a, b => by
    unfold cellsFrom
    split
    · exact cellsFrom_app r (n + 1) ((x, n) :: a) b
    · exact cellsFrom_app r n a b
theorem cellsFrom_mem {x : Str} {c : Addr} : ∀ (names : List (Str × NameKind)) (n : Nat) (a : List (Str × Addr)), (x, c) ∈ cellsFrom n names a → (x, NameKind.cell) ∈ names ∨ (x, c) ∈ a
  | [], _, _, h => .inr h
  | (y, k) :: r, n, a, h => by
    unfold cellsFrom at h
    split at h
    · rename_i hk
      rcases cellsFrom_mem r (n + 1) ((y, n) :: a) h with z | z
      · exact .inl (List.mem_cons_of_mem _ z)
      · rcases List.mem_cons.mp z with z | z
        · cases z
          exact .inl (by rw [eq_of_beq hk]; exact List.mem_cons_self)
        · exact .inr z
    · rcases cellsFrom_mem r n a h with z | z
      · exact .inl (List.mem_cons_of_mem _ z)
      · exact .inr z
theorem lookup_app1 {α : Type} {a b : List (Str × α)} {x : Str} {c : α} (h : a.lookup x = some c) : (a ++ b).lookup x = some c := by rw [List.lookup_append, h] <;> rfl
theorem lookup_app2 {α : Type} {a b : List (Str × α)} {x : Str} (h : a.lookup x = none) : (a ++ b).lookup x = b.lookup x := by rw [List.lookup_append, h] <;> rfl
section
variable {M : Model} {A : Around} {E : Value → Shared → Prop} {s₀ s : Shared} {m cm : Str → Option Value} {env : Env} {own : List (Str × Addr)}
theorem stL1 {n : Str} {v : Value} {Q : Unit → Shared → Prop} (x : InCallC s₀ env.locals m own cm s) (hk : env.scope.kind = .function) (hl : env.kindOf n = some .local)
    (h : ∀ s', InCallC s₀ env.locals (fun y => if y = n then some v else m y) own cm s' → Q () s') : wpAny M A (storeName env n v) Q E s := by
  refine wpAny_storeName_local hl x.toInCall.ns (fun h' hn' hs' => h _ ⟨⟨?_, hn', fun b o e => ?_, x.toInCall.fresh⟩, fun k c hc => ?_, x.apart, x.above⟩) (by rw [hk]; rfl)
  · obtain ⟨h₁, tk, rfl⟩ := x.toInCall.same
    exact ⟨h', _, rfl⟩
  · exact hs'.extBut b o (Nat.ne_of_lt (Nat.lt_of_lt_of_le (Heap.lt_size e) x.toInCall.fresh)) (x.toInCall.keep b o e)
  · exact (x.cell k c hc).sameBut hs' (Nat.ne_of_gt (x.above k c (PySem.mem_of_lookup hc)))
theorem stC1 {n : Str} {c : Addr} {v : Value} {Q : Unit → Shared → Prop} (x : InCallC s₀ env.locals m own cm s) (hk : env.scope.kind = .function) (hl : env.kindOf n = some .cell)
    (hc : own.lookup n = some c) (hc' : env.cells.lookup n = some c)
    (h : ∀ s', InCallC s₀ env.locals m own (fun y => if y = n then some v else cm y) s' → Q () s') : wpAny M A (storeName env n v) Q E s := by
  have hLc := x.above n c (PySem.mem_of_lookup hc)
  refine wpAny_storeName_cell hk hl hc' (x.cell n c hc) fun h' hcN hs' => h _ ⟨⟨?_, x.toInCall.ns.sameBut hs' (Nat.ne_of_lt hLc), fun b o e => ?_, x.toInCall.fresh⟩, fun k c' hk' => ?_, x.apart, x.above⟩
  · obtain ⟨h₁, tk, rfl⟩ := x.toInCall.same
    exact ⟨h', _, rfl⟩
  · exact hs'.extBut b o (Nat.ne_of_lt (Nat.lt_trans (Nat.lt_of_lt_of_le (Heap.lt_size e) x.toInCall.fresh) hLc)) (x.toInCall.keep b o e)
  · by_cases hkn : k = n
    · subst hkn
      rw [hc] at hk'; cases hk'
      simpa using hcN
    · rw [if_neg hkn]
      exact (x.cell k c' hk').sameBut hs' fun e => hkn (name_of_addr x.apart (PySem.mem_of_lookup hk') (e ▸ PySem.mem_of_lookup hc))
theorem bindP1 (f : Str × Value → PUnit → Sem (ForInStep PUnit)) (hf : ∀ n v u, f (n, v) u = (do storeName env n v; pure (.yield ⟨⟩))) (hk : env.scope.kind = .function) (hsub : ∀ n c, own.lookup n = some c → env.cells.lookup n = some c) :
    ∀ (binds : List (Str × Value)) (m cm : Str → Option Value) (s : Shared) (Q : PUnit → Shared → Prop), InCallC s₀ env.locals m own cm s →
      (∀ x ∈ binds, env.kindOf x.1 = some .local ∨ (env.kindOf x.1 = some .cell ∧ (own.lookup x.1).isSome = true)) →
      (∀ s', InCallC s₀ env.locals (bindL env.kindOf binds m) own (bindC env.kindOf binds cm) s' → Q ⟨⟩ s') → wpAny M A (forIn binds ⟨⟩ f) Q E s
  | [], m, cm, s, Q, x, _, h => by rw [List.forIn_nil]; exact wpAny_pure (h s x)
  | (n, v) :: r, m, cm, s, Q, x, hkind, h => by
    rw [List.forIn_cons, hf]
    have hr : ∀ y ∈ r, env.kindOf y.1 = some .local ∨ (env.kindOf y.1 = some .cell ∧ (own.lookup y.1).isSome = true) := fun y hy => hkind y (List.mem_cons_of_mem _ hy)
    rcases hkind (n, v) List.mem_cons_self with hl | ⟨hl, hc⟩
    · refine wpAny_bind (wpAny_bind (stL1 x hk hl fun s' x' => wpAny_pure (bindP1 f hf hk hsub r _ _ s' Q x' hr fun s'' x'' => h s'' ?_)))
      unfold bindL bindC; rw [if_pos hl, if_pos hl]; exact x''
    · obtain ⟨c, hc⟩ := Option.isSome_iff_exists.mp hc
      have hnl : ¬ env.kindOf n = some .local := by rw [hl]; decide
      refine wpAny_bind (wpAny_bind (stC1 x hk hl hc (hsub _ _ hc) fun s' x' => wpAny_pure (bindP1 f hf hk hsub r _ _ s' Q x' hr fun s'' x'' => h s'' ?_)))
      unfold bindL bindC; rw [if_neg hnl, if_neg hnl]; exact x''
theorem newEnv_clo {scope : Scope} {globals : Addr} {closure : List (Str × Addr)} {binds : List (Str × Value)} {qual : Str} {func : Option Addr} {code : Value} {builtins : Addr} {Q : Env → Shared → Prop}
    (hk : scope.kind = .function)
    (hkind : ∀ x ∈ binds, scope.names.lookup x.1 = some .local ∨ (scope.names.lookup x.1 = some .cell ∧ ((cellsFrom (s.heap.objs.size + 1) scope.names []).lookup x.1).isSome = true))
    (hQ : ∀ env, env = newEnv scope s.heap.objs.size globals (cellsFrom (s.heap.objs.size + 1) scope.names [] ++ closure) qual func code none builtins →
      ∀ s', InCallC s env.locals (bindL env.kindOf binds fun _ => none) (cellsFrom (s.heap.objs.size + 1) scope.names []) (bindC env.kindOf binds fun _ => none) s' → Q env s') :
    wpAny M A (newFunctionEnv scope globals closure binds qual func code none builtins) Q E s := by
  simp only [newFunctionEnv, Option.isSome_none, Bool.false_eq_true, if_false]
  refine wpAny_bind (wpAny_alloc ?_)
  refine wpAny_bind (wpAny_layCells _ (fun name kind cells => by cases hkc : kind == NameKind.cell <;> simp [hkc]) _ _ _ _ ?_)
  have ok := cellsFrom_ok scope.names (s.heap.push { cls := .type "frame", data := .dict #[] }) (s.heap.objs.size + 1) [] ⟨fun _ _ hm => (nomatch hm), List.Pairwise.nil⟩ (by rw [Heap.size_push]; exact Nat.le_refl _)
  rw [Heap.size_push] at ok
  rw [show ({ s with heap := s.heap.push { cls := .type "frame", data := .dict #[] } } : Shared).heap.objs.size = s.heap.objs.size + 1 from Heap.size_push ..]
  rw [show cellsFrom (s.heap.objs.size + 1) scope.names closure = cellsFrom (s.heap.objs.size + 1) scope.names [] ++ closure from cellsFrom_app scope.names _ [] closure]
  refine wpAny_bind (bindP1 (s₀ := s) (own := cellsFrom (s.heap.objs.size + 1) scope.names []) (env := newEnv scope s.heap.objs.size globals (cellsFrom (s.heap.objs.size + 1) scope.names [] ++ closure) qual func code none builtins)
    _ (fun _ _ _ => rfl) hk (fun n c e => lookup_app1 e) binds (fun _ => none) (fun _ => none) _ _
    ⟨⟨⟨_, _, rfl⟩, (Heap.Ns.new s.heap (.type "frame")).keeps (pushCells_keeps _ _), fun b o e => pushCells_keeps _ _ b o (Heap.get?_push_of_some _ e), Nat.le_refl _⟩,
      fun n c hc => (ok.empty n c (PySem.mem_of_lookup hc)).1, ok.apart, fun n c hm => (ok.empty n c hm).2⟩
    hkind fun s' x => wpAny_pure (hQ _ rfl s' x))
end
/-! ### the body -/
structure NSc (N ps fr : List Str) (sc : Scope) : Prop where
  kind : sc.kind = .function
  co : sc.isCoroutine = false
  gen : sc.isGenerator = false
  nd : N.Nodup
  pre : N.take (ps.length + fr.length) = ps ++ fr
  par : ∀ x ∈ ps, sc.names.lookup x = some .local ∨ sc.names.lookup x = some .cell
  cell : ∀ y ∈ sc.names, y.2 = .cell → y.1 ∈ ps
  free : ∀ y ∈ sc.names, y.2 = .free → y.1 ∈ fr
  frk : ∀ x ∈ fr, sc.names.lookup x = some .free
def nscC (N ps fr : List Str) (sc : Scope) : Bool :=
  decide (sc.kind = .function) && !sc.isCoroutine && !sc.isGenerator && decide N.Nodup && decide (N.take (ps.length + fr.length) = ps ++ fr) && ps.all (fun x => decide (sc.names.lookup x = some .local) || decide (sc.names.lookup x = some .cell)) && sc.names.all (fun y => !decide (y.2 = .cell) || decide (y.1 ∈ ps)) && sc.names.all (fun y => !decide (y.2 = .free) || decide (y.1 ∈ fr)) && fr.all (fun x => decide (sc.names.lookup x = some .free))
theorem nsc_by {N ps fr : List Str} {sc : Scope} (h : nscC N ps fr sc = true) : NSc N ps fr sc := by
  unfold nscC at h
  simp only [Bool.and_eq_true, Bool.not_eq_true', decide_eq_true_eq, List.all_eq_true, Bool.or_eq_true, decide_eq_false_iff_not] at h
  obtain ⟨⟨⟨⟨⟨⟨⟨⟨h1, h2⟩, h3⟩, h4⟩, h5⟩, h6⟩, h7⟩, h8⟩, h9⟩ := h
  exact ⟨h1, h2, h3, h4, h5, h6, fun y hy e => (h7 y hy).elim (fun z => absurd e z) id, fun y hy e => (h8 y hy).elim (fun z => absurd e z) id, h9⟩
abbrev envM (F : NF) (f L : Addr) : Env := { envF F f L with cells := cellsFrom (L + 1) F.scope.names [] ++ F.cl }
def mcx (P : Program) (w : World) (K : PySem.W.Frag) (mg : Str → Option Value) (base : Heap) (N : List Str) (F : NF) (f : Addr) (A : Around) (outer : List Env) (s : Shared) (H : Hp) (E : XK) : Cx where
  prog := P
  w := w
  K := K
  mg := mg
  base := base
  A := A.deeper (envM F f s.heap.objs.size)
  N := N
  s_0 := s
  H_0 := H
  env := envM F f s.heap.objs.size
  outer := outer
  stack := envM F f s.heap.objs.size :: outer
  ex := []
  calm := true
  fn := fun _ => false
  pn := []
  xe := fun e s' => wpAny (model P w) (A.deeper (envM F f s.heap.objs.size)) (leaving (envM F f s.heap.objs.size) e) (fun _ s'' => CX0 outer H s E e s'') (fun e' s'' => CX0 outer H s E e' s'') s'
section
variable {P : Program} {w : World} {K : PySem.W.Frag} {mg : Str → Option Value} {base : Heap} {N ps fr : List Str} {F : NF} {f : Addr} {A : Around} {outer : List Env} {s s1 : Shared} {H : Hp} {E : XK} {us : List Value} {vs : List V} {ws : List (Option V)}
theorem inv_startM (Sc : NSc N ps fr F.scope) (hd : A.handled = none) (e0 : Env0 P w K mg base A outer s H) (hl : vs.length = ps.length) (r : Vals vs us) (C : CellsAt F.cl fr ws s.heap H)
    (x : InCallC s s.heap.objs.size (bindL (envM F f s.heap.objs.size).kindOf (ps.zip us) fun _ => none) (cellsFrom (s.heap.objs.size + 1) F.scope.names []) (bindC (envM F f s.heap.objs.size).kindOf (ps.zip us) fun _ => none) s1) :
    Inv (mcx P w K mg base N F f A outer s H E) [] (startF N vs ws) H s1 := by
  have hpl : ps.length + fr.length ≤ N.length := by
    have q := congrArg List.length Sc.pre
    rw [List.length_take, List.length_append] at q
    omega
  obtain ⟨h1, tk, rfl, kp⟩ := x.done
  have noA : ∀ b : Addr, b ∉ (mcx P w K mg base N F f A outer s H E).ex := fun b z => absurd (show b ∈ ([] : List Addr) from z) (by simp)
  have cellK : ∀ {c : Addr} {v : Option Value}, s.heap.IsCell c v → h1.IsCell c v := fun {c v} ⟨o, ho, hd⟩ => ⟨o, kp _ _ ho, hd⟩
  have ndPF : (ps ++ fr).Nodup := by
    have q := Sc.nd.sublist (List.take_sublist (ps.length + fr.length) N)
    rwa [Sc.pre] at q
  have ndP : ps.Nodup := (List.nodup_append.mp ndPF).1
  have own_ps : ∀ {y c}, (cellsFrom (s.heap.objs.size + 1) F.scope.names []).lookup y = some c → y ∈ ps := fun {y c} e => by
    rcases cellsFrom_mem _ _ _ (PySem.mem_of_lookup e) with z | z
    · exact Sc.cell _ z rfl
    · cases z
  have lt_cl : ∀ {y c}, F.cl.lookup y = some c → c < s.heap.objs.size := fun {y c} e => by
    obtain ⟨_, v, o, ho, _⟩ := C.all y c e
    exact Heap.lt_size ho
  have look : ∀ {y c}, (cellsFrom (s.heap.objs.size + 1) F.scope.names [] ++ F.cl).lookup y = some c → (cellsFrom (s.heap.objs.size + 1) F.scope.names []).lookup y = some c ∨ ((cellsFrom (s.heap.objs.size + 1) F.scope.names []).lookup y = none ∧ F.cl.lookup y = some c) := fun {y c} e => by
    cases q : (cellsFrom (s.heap.objs.size + 1) F.scope.names []).lookup y with
    | some d => rw [lookup_app1 q] at e; exact .inl e
    | none => rw [lookup_app2 q] at e; exact .inr ⟨rfl, e⟩
  refine ⟨⟨e0.mod, Sc.kind, rfl, rfl, Nat.le_refl _, fun y z c e1 e2 => ?_, fun y hy => ?_, fun y c z _ => ?_, fun _ => hd, Around.frames_deeper e0.frames, .inr ⟨rfl, rfl⟩, fun b z => absurd z (noA b), e0.bs, e0.bsz, fun b _ _ => noA b,
      fun b z => absurd z (noA b), e0.funs, e0.frf⟩,
    rfl, e0.bare, Un.kept kp, ⟨_, x.toInCall.ns, fun i y v e1 e2 e3 => ?_⟩, fun y c e => ?_, e0.hok.fresh (Nat.le_refl _), fun y c e => ?_, fun q hq => absurd (show q ∈ ([] : List (Addr × Obj)) ++ [] from hq) (by simp), e0.hok.kept kp, ?_⟩
  · rcases look e1 with a | ⟨_, a⟩ <;> rcases look e2 with b | ⟨_, b⟩
    · exact name_of_addr x.apart (PySem.mem_of_lookup a) (PySem.mem_of_lookup b)
    · exact absurd (Nat.lt_trans (x.above y c (PySem.mem_of_lookup a)) (lt_cl b)) (Nat.lt_irrefl _)
    · exact absurd (Nat.lt_trans (x.above z c (PySem.mem_of_lookup b)) (lt_cl a)) (Nat.lt_irrefl _)
    · exact C.inj y z c a b
  · have hy : F.scope.names.lookup y = some .cell ∨ F.scope.names.lookup y = some .free := hy
    rcases hy with hy | hy
    · obtain ⟨c, e⟩ := cell_has (n := s.heap.objs.size + 1) hy
      exact ⟨c, lookup_app1 e⟩
    · obtain ⟨i, hi⟩ := List.mem_iff_getElem?.mp (Sc.free _ (PySem.mem_of_lookup hy) rfl)
      obtain ⟨c, hc, _⟩ := C.has i y hi
      cases q : (cellsFrom (s.heap.objs.size + 1) F.scope.names []).lookup y with
      | some d => exact ⟨d, lookup_app1 q⟩
      | none => exact ⟨c, (lookup_app2 q).trans hc⟩
  · have z : false = true := z
    cases z
  · have e1 : N[i]? = some y := e1
    have clen := C.len
    unfold startF at e2
    by_cases h1' : i < ps.length
    · have hq : (ps ++ fr)[i]? = some y := by
        rw [← Sc.pre, List.getElem?_take_of_lt (by omega)]
        exact e1
      rw [List.getElem?_append_left h1'] at hq
      rw [List.getElem?_append_left (by rw [List.length_map]; omega), List.getElem?_map] at e2
      have ha : vs[i]? = some v := by
        cases e : vs[i]? with
        | none => rw [e] at e2; cases e2
        | some a => rw [e] at e2; cases e2; rfl
      obtain ⟨u, hu, rv⟩ := r.get ha
      refine ⟨u, rv, ?_⟩
      rcases Sc.par y (List.mem_of_getElem? hq) with k | k
      · exact .inl ⟨k, bindL_get ndP hq hu k⟩
      · obtain ⟨c, e⟩ := cell_has (n := s.heap.objs.size + 1) k
        refine .inr ⟨.inl k, c, lookup_app1 e, ?_⟩
        have q := x.cell y c e
        rw [bindC_get ndP hq hu (by show F.scope.names.lookup y ≠ _; rw [k]; decide)] at q
        exact q
    · rw [List.getElem?_append_right (by rw [List.length_map]; omega), List.length_map] at e2
      by_cases h2 : i < ps.length + fr.length
      · have hq : (ps ++ fr)[i]? = some y := by
          rw [← Sc.pre, List.getElem?_take_of_lt (by omega)]
          exact e1
        rw [List.getElem?_append_right (by omega)] at hq
        rw [List.getElem?_append_left (by omega), hl] at e2
        obtain ⟨c, hc, hv⟩ := C.has (i - ps.length) y hq
        obtain ⟨u, ru, hu⟩ := hv v e2
        have hyf := List.mem_of_getElem? hq
        have hno : (cellsFrom (s.heap.objs.size + 1) F.scope.names []).lookup y = none := by
          cases q : (cellsFrom (s.heap.objs.size + 1) F.scope.names []).lookup y with
          | none => rfl
          | some d => exact absurd rfl ((List.nodup_append.mp ndPF).2.2 y (own_ps q) y hyf)
        exact ⟨u, ru, .inr ⟨.inr (Sc.frk y hyf), c, (lookup_app2 hno).trans hc, cellK hu⟩⟩
      · rw [List.getElem?_append_right (by omega), List.getElem?_replicate] at e2
        split at e2 <;> cases e2
  · rcases look e with a | ⟨_, a⟩
    · exact ⟨_, x.cell y c a⟩
    · obtain ⟨v, z⟩ := (C.all y c a).2
      exact ⟨v, cellK z⟩
  · rcases look e with a | ⟨_, a⟩
    · exact e0.hok.fresh (Nat.le_of_lt (x.above y c (PySem.mem_of_lookup a)))
    · exact (C.all y c a).1
  · have clen := C.len
    unfold startF
    show _ = N.length
    rw [List.length_append, List.length_append, List.length_map, List.length_replicate]
    omega
/-- THE RULE: such a def by its body -/
theorem nok_ofM {k : Nat} {sp : List (Option V) → Sp} (Sc : NSc N ps fr F.scope) (hb : ∀ (doc pm ctv : Value) (us : List Value), us.length = ps.length → bindArgs (F.fd doc pm ctv) ⟨us, []⟩ = pure (ps.zip us)) (len : ∀ ws vs H Q E, sp ws vs H Q E → vs.length = ps.length)
    (hbody : ∀ (A : Around) (outer : List Env) (s : Shared) (H : Hp) (vs : List V) (ws : List (Option V)) (Q : VK) (E : XK), Room k (A.deeper (envM F f s.heap.objs.size)) → ws.length = fr.length → sp ws vs H Q E →
      ∃ t, PSs (mcx P w K mg base N F f A outer s H E) F.body t ∧ t { nx := fun _ H' => Q .non H', rt := Q } (startF N vs ws) H) :
    NOk P w K mg base CX0 (k + 1) f F ps fr sp := by
  refine ⟨len, fun A outer s H us vs ws Q E hr e0 hf hc C r hsp => ?_⟩
  have hl := len _ _ _ _ _ hsp
  have lim : s.heap.NoLimit := e0.mod.nolimit.keeps fun b o e => (e0.bs b o e).1
  obtain ⟨od, sl, doc, pm, ctv, ho⟩ := fnO_at e0.hok hf
  refine codeAny_call_function hr.depth ho rfl Sc.co Sc.gen rfl (codeO_at e0.hok hc) ?_
  rw [hb doc pm ctv us (by rw [← r.length]; exact hl)]
  have hkind : ∀ y ∈ ps.zip us, F.scope.names.lookup y.1 = some .local ∨ (F.scope.names.lookup y.1 = some .cell ∧ ((cellsFrom (s.heap.objs.size + 1) F.scope.names []).lookup y.1).isSome = true) := fun ⟨n, v⟩ hy => by
    rcases Sc.par n (List.of_mem_zip hy).1 with q | q
    · exact .inl q
    · exact .inr ⟨q, PySem.W.cellsFrom_some _ _ _ (.inl q)⟩
  refine wpAny_pure (newEnv_clo Sc.kind hkind fun env he s1 x => ?_)
  subst he
  refine ⟨lim.keeps x.toInCall.keep, ?_⟩
  show codeAny _ _ (.func F.body (envM F f s.heap.objs.size)) _ _
  refine codeAny_func ?_
  obtain ⟨t, ht, hq⟩ := hbody A outer s H vs ws Q E (hr.deeper _) C.len hsp
  have I : Inv (mcx P w K mg base N F f A outer s H E) [] (startF N vs ws) H s1 := inv_startM Sc hr.hd e0 hl r C x
  refine wpAny_mono (ht.run [] _ (startF N vs ws) H _ I hq) (fun fl s' hs => ?_) fun e s' hs => hs
  have fin : ∀ {σ' : L2.St} {H' : Hp} {v : V} {u : Value}, Inv (mcx P w K mg base N F f A outer s H E) [] σ' H' s' → L2.RelV v u → Q v H' → CE outer P w H s Q u s' :=
    fun {σ' H' v u} J rv q => ⟨v, H', J.os, J.bare, J.base, J.hok, rv, q⟩
  cases fl with
  | ret u =>
    obtain ⟨v, σ', H', J, rv, q⟩ := hs
    exact fin J rv q
  | next =>
    obtain ⟨σ', H', J, q⟩ := hs
    exact fin (v := V.non) (u := Value.none) J rfl q
  | brk =>
    obtain ⟨_, _, _, q⟩ := hs
    exact False.elim q
  | cont =>
    obtain ⟨_, _, _, q⟩ := hs
    exact False.elim q
end
end K81
end
section
set_option Elab.async false
set_option maxRecDepth 100000
set_option maxHeartbeats 4000000
set_option linter.all false
set_option pp.maxSteps 1500
set_option pp.deepTerms false
/-! A lambda that captures nothing, handed to a def. -/
namespace K81
open PySem PySem.Spec PyProof.Rows L2 K81M NdefX LamX
/-- the object at f is the lambda of this text -/
def LamO (f : Addr) (qual : Str) (params : Arguments) (body : Expr) (scope : Scope) (c' : Addr) : HO := .ext fun h => ∃ (pm ctv : Value), h.get? f = some (PySem.W.kla_obj "<lambda>" qual params body scope [] pm c' ctv)
def nfL (qual : Str) (params : Arguments) (scope : Scope) (c' : Addr) : NF := ⟨"<lambda>", qual, params, [], scope, [], c'⟩
section
variable {X : Cx} {pins : List (Addr × Obj)} {σ : L2.St} {H : Hp} {s : Shared}
theorem cloFrom_none {cells : List (Str × Addr)} : ∀ {names : List (Str × NameKind)}, (∀ y ∈ names, y.2 ≠ .free) → cloFrom cells names [] = []
  | [], _ => rfl
  | (y, k) :: r, h => by
    have ih := cloFrom_none (cells := cells) (names := r) fun z hz => h z (List.mem_cons_of_mem _ hz)
    have hk : k ≠ .free := h (y, k) List.mem_cons_self
    cases k with
    | free => exact absurd rfl hk
    | _ => exact ih
theorem inv_lam {o : Obj} {t' : Nat} {qual : Str} {params : Arguments} {body : Expr} {scope : Scope} {c' : Addr} {pm ctv : Value} (I : Inv X pins σ H s) (ho : o = PySem.W.kla_obj "<lambda>" qual params body scope [] pm c' ctv) :
    Inv X pins σ (upd H s.heap.objs.size (LamO s.heap.objs.size qual params body scope c')) { s with heap := s.heap.push o, toks := t' } := by
  subst ho
  refine I.laid (a := s.heap.objs.size) (fun b u e => Heap.get?_push_of_some _ e) (Nat.le_refl _) ?_
  have e : (s.heap.push (PySem.W.kla_obj "<lambda>" qual params body scope [] pm c' ctv)).get? s.heap.objs.size = some (PySem.W.kla_obj "<lambda>" qual params body scope [] pm c' ctv) := Heap.get?_push_size _ rfl
  exact ⟨⟨pm, ctv, e⟩, ⟨_, e⟩, fun h1 h2 ⟨p, t, z⟩ st => ⟨p, t, st _ z⟩⟩
theorem pe_lam {T : List NTab} {nm : Nat → Nat → Str} {c P : Addr} {params : Arguments} {body : Expr} {scope : Scope} {pos : Pos} (TB : TabB X.base X.mg c P) (hcode : X.env.code = .ref c)
    (hm : (P, nm) ∈ T) (hn : nm pos.line pos.col = X.env.qual ++ "<lambda>") (hu : ∀ p ∈ T, p.1 = P → p.2 = nm) (hdef : defaultsOf params X.env = ([], [])) (hfree : ∀ y ∈ scope.names, y.2 ≠ .free) :
    PE X (.Lambda params body scope pos) (fun σ H Q => TabsN T H ∧ ∀ (f c' : Addr) (H1 : Hp), ExtN H H1 → TabsN T H1 → H f = none → H1 f = some (LamO f (X.env.qual ++ "<lambda>") params body scope c') → H1 c' = some (CodeO c' (X.env.qual ++ "<lambda>")) → Q (.ref f) H1) := by
  refine ⟨fun pins s σ H Q I h => ?_⟩
  obtain ⟨hT, h⟩ := h
  have hclo : closureFor scope X.env = pure [] := by
    have := closure_ok (env := X.env) (scope := scope) fun y hy e => absurd e (hfree y hy)
    rwa [cloFrom_none hfree] at this
  obtain ⟨ps, hP, ht, ha⟩ := (show TabN H P nm from hT _ hm)
  have bP : s.heap.BuiltinsAt X.mg P := TB.bm.keeps I.bk
  have hP' : s.heap.get? P = some { cls := .none, data := .fields ps } := I.hok P _ hP
  refine PySem.W.kla_eval hdef ?_
  cases hc : codeAmong pos ps.toList with
  | none =>
    refine PySem.W.kla_makeFunction (mg := X.mg) (c := c) (P := P) (ps := ps) hclo I.ok.glob (I.mod.glob.keeps I.bk) hcode (TB.code.keeps I.bk) hP' ht hc TB.gP bP fun c' ctv h' tk hx hge hlt hrec htb => ?_
    obtain ⟨c2, oc, vs, t, e2, hoc, hd, hv⟩ := hrec
    cases e2
    have nC : H c' = none := I.hok.fresh hge
    have I1 := inv_table (t' := tk) (more := #[rawInt pos.line, rawInt pos.col, .ref c']) (h' := h') I hP (fun b o hb e => hx b o hb e) htb hge ⟨oc, vs, t, hoc, hd, hv⟩
    have hE : ExtN H (upd (upd H P (.tbl (ps ++ #[rawInt pos.line, rawInt pos.col, .ref c']))) c' (CodeO c' (X.env.qual ++ "<lambda>"))) := fun b o e n => by
      rw [upd_ne (ne_of_none e nC), upd_ne (fun z => n ps (Option.some.inj (e.symm.trans (by rw [z]; exact hP))))]
      exact e
    have eL : (ps ++ #[rawInt pos.line, rawInt pos.col, .ref c']).toList = ps.toList ++ [rawInt pos.line, rawInt pos.col, .ref c'] := by simp
    have T1 : TabsN T (upd (upd H P (.tbl (ps ++ #[rawInt pos.line, rawInt pos.col, .ref c']))) c' (CodeO c' (X.env.qual ++ "<lambda>"))) := fun p hp => by
      by_cases hb : p.1 = P
      · rw [hu p hp hb, hb]
        refine ⟨_, by rw [upd_ne (ne_of_none hP nC), upd_same], by rw [eL]; exact PySem.TriplesOk_snoc _ _ _ _ ht, fun p' cv hcv => ?_⟩
        rw [eL] at hcv
        rcases among_app2 _ ht hcv with z | ⟨z, z1, z2⟩
        · obtain ⟨c0, e1, e2⟩ := ha p' cv z
          exact ⟨c0, e1, hE _ _ e2 codeO_ne⟩
        · refine ⟨c', z, ?_⟩
          rw [← z1, ← z2, hn]
          exact upd_same
      · obtain ⟨ps', a1, a2, a3⟩ := hT p hp
        refine ⟨ps', by rw [upd_ne (ne_of_none a1 nC), upd_ne hb]; exact a1, a2, fun p' cv hcv => ?_⟩
        obtain ⟨c0, e1, e2⟩ := a3 p' cv hcv
        exact ⟨c0, e1, hE _ _ e2 codeO_ne⟩
    have nF := I1.hok.fresh (Nat.le_refl _)
    have I2 := inv_lam (qual := X.env.qual ++ "<lambda>") (params := params) (body := body) (scope := scope) (c' := c') (t' := tk) (pm := (X.mg "__name__").getD .none) (ctv := ctv) I1 rfl
    refine ⟨.ref h'.objs.size, _, I2, rfl, h h'.objs.size c' _ (fun b o e n => ?_) (T1.ext fun b o e => ?_) (I.hok.fresh (Nat.le_trans hge (Nat.le_of_lt hlt))) upd_same ?_⟩
    · have e1 := hE b o e n
      exact (upd_ne (ne_of_none e1 nF)).trans e1
    · exact (upd_ne (ne_of_none e nF)).trans e
    · exact (upd_ne (Nat.ne_of_lt hlt)).trans upd_same
  | some cv =>
    obtain ⟨c', e, hco⟩ := ha pos cv hc
    subst e
    rw [hn] at hco
    refine PySem.W.kla_makeFunctionHit (mg := X.mg) (c := c) (P := P) (ps := ps) hclo I.ok.glob (I.mod.glob.keeps I.bk) hcode (TB.code.keeps I.bk) hP' ht hc bP fun ctv h' tk hx hsz => ?_
    have I1 : Inv X pins σ H { s with heap := h', toks := tk } := I.kept hx
    have nF : H h'.objs.size = none := I1.hok.fresh (Nat.le_refl _)
    have I2 := inv_lam (qual := X.env.qual ++ "<lambda>") (params := params) (body := body) (scope := scope) (c' := c') (t' := tk) (pm := (X.mg "__name__").getD .none) (ctv := ctv) I1 rfl
    refine ⟨.ref h'.objs.size, _, I2, rfl, h h'.objs.size c' _ (fun b o e n => ?_) (hT.ext fun b o e => ?_) nF upd_same ?_⟩
    · exact (upd_ne (ne_of_none e nF)).trans e
    · exact (upd_ne (ne_of_none e nF)).trans e
    · exact (upd_ne (ne_of_none hco nF)).trans hco
end
section
variable {P : Program} {w : World} {K : PySem.W.Frag} {mg : Str → Option Value} {base : Heap}
theorem cells_nil {h : Heap} {H : Hp} : CellsAt [] [] [] h H := ⟨rfl, fun y c e => (by cases e), fun x y c e => (by cases e), fun i y e => by simp at e⟩
/-- what the lambda promises -/
theorem clo_lam {k : Nat} {f c' : Addr} {qual : Str} {params : Arguments} {body : Expr} {scope : Scope} {N ps : List Str} {sp : Sp} {s : Shared} {H : Hp} (Sc : NSc N ps [] scope)
    (hb : ∀ (pm ctv : Value) (us : List Value), us.length = ps.length → bindArgs (PySem.W.kla_fn "<lambda>" qual params body scope [] pm (.ref c') ctv) ⟨us, []⟩ = pure (ps.zip us)) (len : ∀ vs H Q E, sp vs H Q E → vs.length = ps.length)
    (hf : H f = some (LamO f qual params body scope c')) (hc : H c' = some (CodeO c' qual))
    (hbody : ∀ (A : Around) (outer : List Env) (s : Shared) (H : Hp) (vs : List V) (Q : VK), Room k (A.deeper (envM (nfL qual params scope c') f s.heap.objs.size)) → sp vs H Q E0 →
      ∃ t, PE (mcx P w K mg base N (nfL qual params scope c') f A outer s H E0) body t ∧ t (startF N vs []) H Q) : Clo P w K mg base (k + 1) f sp s H where
  at_ := fun s' H' l e hok => by
    obtain ⟨⟨pm, ctv, ho⟩, _⟩ := hok f _ (e _ _ hf)
    exact ⟨_, _, _, _, ho⟩
  run := fun A outer s' H' us vs Q l e hr e0 r hsp => by
    obtain ⟨⟨pm, ctv, ho⟩, _⟩ := e0.hok f _ (e _ _ hf)
    have hl := len _ _ _ _ hsp
    have lim : s'.heap.NoLimit := e0.mod.nolimit.keeps fun b o e => (e0.bs b o e).1
    refine PySem.W.kla_callFunE hr.depth ho rfl Sc.co Sc.gen rfl (codeO_at e0.hok (e _ _ hc)) ?_
    rw [hb pm ctv us (by rw [← r.length]; exact hl)]
    have hkind : ∀ y ∈ ps.zip us, scope.names.lookup y.1 = some .local ∨ (scope.names.lookup y.1 = some .cell ∧ ((cellsFrom (s'.heap.objs.size + 1) scope.names []).lookup y.1).isSome = true) := fun ⟨n, v⟩ hy => by
      rcases Sc.par n (List.of_mem_zip hy).1 with q | q
      · exact .inl q
      · exact .inr ⟨q, PySem.W.cellsFrom_some _ _ _ (.inl q)⟩
    refine wpAny_pure (newEnv_clo (closure := []) Sc.kind hkind fun env he s1 x => ?_)
    subst he
    refine ⟨lim.keeps x.toInCall.keep, ?_⟩
    show codeAny _ _ (.expr body (envM (nfL qual params scope c') f s'.heap.objs.size)) _ _
    obtain ⟨t, ht, hq⟩ := hbody A outer s' H' vs Q (hr.deeper _) hsp
    have I : Inv (mcx P w K mg base N (nfL qual params scope c') f A outer s' H' E0) [] (startF N vs []) H' s1 := inv_startM (F := nfL qual params scope c') Sc hr.hd e0 hl r cells_nil x
    refine PySem.W.kla_codeExpr (wpAny_mono (ht.run [] _ _ H' Q I hq) (fun v s2 hq => ?_) fun e s2 hq => hq)
    obtain ⟨w', H2, J, rv, q⟩ := hq
    exact ⟨w', H2, J.os, J.bare, J.base, J.hok, rv, q⟩
end
end K81
end
section
set_option Elab.async false
set_option maxRecDepth 100000
set_option maxHeartbeats 4000000
set_option linter.all false
set_option pp.maxSteps 1500
set_option pp.deepTerms false
/-! sorted of one tuple in a set; sorted of a list of tuples of ints. -/
namespace K81
open PySem PySem.Spec PyProof.Rows L2
theorem dpa_ints {K : PySem.W.Frag} {H : Hp} : ∀ r : List Int, DpAll K H (r.map V.int) (r.map PyData.int)
  | [] => .nil
  | i :: r => .cons (.int i) (dpa_ints r)
section
variable {prog : Program} {w : World} {A : Around} {s : Shared}
/-- one value alone is sorted -/
theorem sorts_one {v : Value} {d : PyData} {as : List Addr} (r : Reads s.heap v d as) (hal : PySem.W.alike d d = true) (hn : d ≠ .none) (hu : A.units + d.depth < cLine) : PySem.W.SortsAt prog w A s (PySem.W.dataKind s.heap [d]) [v] := by
  have al : PySem.W.AllAlike [d] := fun x hx y hy => by
    rw [List.mem_singleton.mp hx, List.mem_singleton.mp hy]
    exact hal
  refine ⟨fun u hu' => ?_, general', fun E x y a b Q ha hb hq => ?_, fun h2 => absurd h2 (by simp)⟩
  · rw [List.mem_singleton.mp hu']
    exact ⟨_, PySem.W.dataKind_some al List.mem_cons_self r⟩
  · obtain ⟨d1, as1, hd1, ra, rfl⟩ := PySem.W.dataKind_inv ha
    obtain ⟨d2, as2, hd2, rb, rfl⟩ := PySem.W.dataKind_inv hb
    obtain rfl := List.mem_singleton.mp hd1
    obtain rfl := List.mem_singleton.mp hd2
    exact PySem.W.oneLt_alike (f := false) (fun z => nomatch z) ra rb hal hn (by have := Nat.min_self d2.depth; omega) hq
end
section
variable {X : Cx}
def rSorted1 (K : PySem.W.Frag) (P : Program) (w : World) : List V → Hp → VK → Prop := fun vs H Q => ∃ (a b : Addr) (L : List (Addr × List Int)) (r : List Int), vs = [V.ref a] ∧ H a = some (SetTO P w a L) ∧ (∀ p ∈ L, p = (b, r)) ∧ L ≠ [] ∧ H b = some (.tup (r.map V.int)) ∧
  ∀ p, H p = none → Q (.ref p) (upd H p (.lst [V.ref b]))
theorem cr_sorted1 (hc : X.calm = true) (hu : X.A.units + 64 < cLine) : CallR X (.builtin "sorted") (rSorted1 X.K X.prog X.w) := by
  intro pins s σ H vs us Q I rr h
  obtain ⟨a, b, L, r, rfl, ha, hL, hne, hb, q⟩ := h
  have R0 : SetT0 X.prog X.w s.heap a L := (I.hok a _ ha).1
  obtain ⟨es, ep, t, R⟩ := R0.full fun p hp => I.isT (.inl (.inl (by rw [hL p hp]; exact hb)))
  rw [Vals.ref1 rr]
  have eL : L = [(b, r)] := by
    cases L with
    | nil => exact absurd rfl hne
    | cons x L =>
      cases L with
      | nil => rw [hL x List.mem_cons_self]
      | cons y L =>
        have := R.nd
        rw [hL x List.mem_cons_self, hL y (List.mem_cons_of_mem _ List.mem_cons_self)] at this
        simp at this
  subst eL
  obtain ⟨o, ho, hex, hd⟩ := R.ob
  have hes : es.toList.map (·.2) = [Value.ref b] := by
    rw [R.rows] <;> rfl
  refine Calls.call_function_entry kind_sorted plain_sorted entry_sorted (args_sorted1 _) ?_
  unfold Builtin.«sorted»
  refine wpAny_bind (m := checkCount "sorted" 1 1 _) (wpAny_pure ?_)
  refine wpAny_bind (collect_set (A := X.A.in1) (I.ok.hd hc) ⟨o, ho, hex.1, hd⟩ R.fits (by unfold scanBound; rw [R.size]; exact (by decide : 1 < 4096)) R.tab.ris R.led fun s1 vs k1 hz g1 o1 pm => ?_)
  rw [hes] at pm
  obtain rfl := List.perm_singleton.mp pm
  refine wpAny_bind (wpAny_newList ?_ (by show 1 ≤ sizeLine; decide))
  have hoL : (s1.heap.push (seqObj "list" [Value.ref b].toArray 0)).get? s1.heap.objs.size = some (seqObj "list" [Value.ref b].toArray 0) := Heap.get?_push_size _ rfl
  have dp : Dp X.K H (.ref b) (.tuple (r.map PyData.int)) := .tup (SqT.of hb) (by
    clear hb q ha R hes pm hL hne R0 hoL
    induction r with
    | nil => exact .nil
    | cons i r ih => exact .cons (.int i) ih)
  obtain ⟨as, rd⟩ := Dp.reads I _ _ (.ref b) dp rfl
  have rd1 : Reads (s1.heap.push (seqObj "list" [Value.ref b].toArray 0)) (.ref b) (.tuple (r.map PyData.int)) as := PyProof.Rows.Reads.keeps (fun c u e => Heap.get?_push_of_some _ (k1 c u e)) rd
  have hbs : s1.heap.objs.size ∉ as ∧ b ≠ s1.heap.objs.size := by
    have hbl : ∃ ob, s.heap.get? b = some ob := by
      obtain ⟨_, its, _, ob, h1, _⟩ := (show ObjOk X.prog X.w H s.heap b (.tup (r.map V.int)) from I.hok b _ hb)
      exact ⟨ob, h1⟩
    obtain ⟨ob, hob⟩ := hbl
    have lt := Heap.lt_size (k1 b ob hob)
    refine ⟨?_, Nat.ne_of_lt lt⟩
    intro hm
    have allnum : ∀ (ds : List Int) (vs : List Value) (as : List Addr), ReadsAll s.heap vs (ds.map PyData.int) as → as = [] := by
      intro ds
      induction ds with
      | nil => intro vs as h; cases h; rfl
      | cons i ds ih =>
        intro vs as h
        rw [List.map_cons] at h
        cases h with
        | cons h1 h2 =>
          cases h1
          exact ih _ _ h2
    cases rd with
    | @tuple l o' xs n _ as' h1 h2 h3 h4 =>
      have e := allnum _ _ _ h4
      subst e
      cases hm
  have rd2 : Reads (PySem.W.sortingHeap (s1.heap.push (seqObj "list" [Value.ref b].toArray 0)) s1.heap.objs.size [Value.ref b]) (.ref b) (.tuple (r.map PyData.int)) as :=
    PySem.W.Reads.keepBut (a := s1.heap.objs.size) (fun c u hc e => PySem.W.sortingHeap_old hc e) (fun u e => by rw [hoL] at e; rw [← Option.some.inj e] <;> rfl) _ _ _ (by simp [PySem.W.alike, PySem.W.alike_ints]) rd1 hbs.1
  refine wpAny_bind (wpAny_holding (wpAny_call_entry slot_list_sort ⟨_, hoL, rfl⟩ entry_list_sort (PySem.W.list_sort_vals (κ := PySem.W.dataKind (PySem.W.sortingHeap (s1.heap.push (seqObj "list" [Value.ref b].toArray 0)) s1.heap.objs.size [Value.ref b]) [.tuple (r.map PyData.int)]) (s := { s1 with heap := s1.heap.push (seqObj "list" [Value.ref b].toArray 0) }) (n := 0) hoL
    (sorts_one (s := { s1 with heap := PySem.W.sortingHeap (s1.heap.push (seqObj "list" [Value.ref b].toArray 0)) s1.heap.objs.size [Value.ref b] }) rd2 (by simp [PySem.W.alike, PySem.W.alike_ints]) (fun z => nomatch z) ?_) (by show 1 ≤ sizeLine; decide) ⟨.none, rfl, ?_⟩) (args_list_sort _)))
  · simp only [PyData.depth, PySem.W.depth_ints]
    show X.A.units + 1 + 1 + (0 + 1) < cLine
    omega
  · have e1 : PySem.W.sortVals (PySem.W.dataKind (PySem.W.sortingHeap (s1.heap.push (seqObj "list" [Value.ref b].toArray 0)) s1.heap.objs.size [Value.ref b]) [PyData.tuple (r.map PyData.int)]) false [Value.ref b] [Value.ref b] = [Value.ref b] := by
      have l := PySem.W.sortVals_length (κ := PySem.W.dataKind (PySem.W.sortingHeap (s1.heap.push (seqObj "list" [Value.ref b].toArray 0)) s1.heap.objs.size [Value.ref b]) [PyData.tuple (r.map PyData.int)]) false (ks := [Value.ref b]) (vs := [Value.ref b]) rfl
      cases q0 : PySem.W.sortVals (PySem.W.dataKind (PySem.W.sortingHeap (s1.heap.push (seqObj "list" [Value.ref b].toArray 0)) s1.heap.objs.size [Value.ref b]) [PyData.tuple (r.map PyData.int)]) false [Value.ref b] [Value.ref b] with
      | nil => rw [q0] at l; cases l
      | cons x xs =>
        rw [q0] at l
        have hx : xs = [] := List.length_eq_zero_iff.mp (by simpa using l)
        have hm := PySem.W.sortVals_mem (κ := PySem.W.dataKind (PySem.W.sortingHeap (s1.heap.push (seqObj "list" [Value.ref b].toArray 0)) s1.heap.objs.size [Value.ref b]) [PyData.tuple (r.map PyData.int)]) false (ks := [Value.ref b]) (vs := [Value.ref b]) (v := x) (by rw [q0]; exact List.mem_cons_self)
        rw [hx, List.mem_singleton.mp hm]
    rw [e1]
    have hn : H s1.heap.objs.size = none := I.hok.fresh hz
    obtain ⟨c, hg⟩ := sortedHeap_at (vs := [Value.ref b]) (out := [Value.ref b].toArray) hoL
    have kk : ∀ b' u, s.heap.get? b' = some u → (sortedHeap (s1.heap.push (seqObj "list" [Value.ref b].toArray 0)) s1.heap.objs.size [Value.ref b] [Value.ref b].toArray).get? b' = some u := fun b' u e => by
      have q2 := k1 b' u e
      have hlt := Heap.lt_size q2
      rw [sortedHeap_old (Nat.ne_of_lt hlt) (by rw [Heap.size_push]; exact Nat.lt_succ_of_lt hlt)]
      exact Heap.get?_push_of_some _ q2
    refine wpAny_pure ⟨_, rfl, ?_⟩
    have J : Inv X pins σ (upd H s1.heap.objs.size (.lst [V.ref b])) { s with heap := sortedHeap (s1.heap.push (seqObj "list" [Value.ref b].toArray 0)) s1.heap.objs.size [Value.ref b] [Value.ref b].toArray, gens := s1.gens, drawn := s1.drawn, toks := s1.toks } :=
      I.call (ch := []) (Un.laid kk hz hn) (I.hok.laid kk hz ⟨by show 1 ≤ sizeLine; decide, [Value.ref b], c, .cons rfl .nil, hg⟩) (by rw [g1]; exact I.bare) (fun _ z => nomatch z)
    obtain ⟨hp', gg, dd, tt, oo⟩ := s1
    obtain rfl : oo = s.os := o1
    exact ⟨.ref _, _, J, rfl, q _ hn⟩
/-- sorted(list of tuples of ints, none empty) -/
def encT (r : List Int) : PyData := .tuple (r.map PyData.int)
def rSortedTs (K : PySem.W.Frag) : List V → Hp → VK → Prop := fun vs H Q => ∃ (l : Addr) (bs : List Addr) (rows : List (List Int)), vs = [V.ref l] ∧ SqL K H l (bs.map V.ref) ∧ Paired (fun b (r : List Int) => H b = some (.tup (r.map V.int)) ∧ r ≠ []) bs rows ∧
  ∀ p bs', H p = none → Paired (fun b (r : List Int) => H b = some (.tup (r.map V.int))) bs' (rows.mergeSort (PySem.W.dataLe false encT)) → Q (.ref p) (upd H p (.lst (bs'.map V.ref)))
theorem cr_sortedTs (hu : X.A.units + 64 < cLine) : CallR X (.builtin "sorted") (rSortedTs X.K) := by
  intro pins s σ H vs us Q I rr h
  obtain ⟨l, bs, rows, rfl, hl, hP, q⟩ := h
  rw [Vals.ref1 rr]
  obtain ⟨its, rv, pl, hz⟩ := I.list hl
  have hits : its = bs.map Value.ref := by
    clear hP q pl hz hl
    induction bs generalizing its with
    | nil => cases rv; rfl
    | cons b bs ih =>
      rw [List.map_cons] at rv
      cases rv with
      | cons h1 h2 =>
        cases h1
        rw [ih _ h2] <;> rfl
  subst hits
  let R : Value → List Int → Prop := fun v r => (∃ b, v = .ref b ∧ H b = some (.tup (r.map V.int))) ∧ r ≠ []
  have e : PySem.W.EachIs R (bs.map Value.ref) rows := by
    clear rv pl hl hz q
    induction hP with
    | nil => exact .nil
    | cons h1 t ih => exact .cons ⟨⟨_, rfl, h1.1⟩, h1.2⟩ ih
  have er : PySem.W.EachIs (fun v b => ∃ as, Reads s.heap v (encT b) as) (bs.map Value.ref) rows := e.mono fun v r ⟨⟨b, hv, hb⟩, _⟩ => by
    subst hv
    exact Dp.reads I _ _ (.ref b) (.tup (SqT.of hb) (dpa_ints r)) rfl
  have rl : bs.length = rows.length := PySem.Paired.length hP
  have hne : ∀ r ∈ rows, r ≠ [] := by
    clear rv pl hl hz q e er rl
    induction hP with
    | nil => intro r hr; cases hr
    | cons h1 t ih =>
      intro r hr
      rcases List.mem_cons.mp hr with z | z
      · rw [z]; exact h1.2
      · exact ih r z
  refine PySem.W.sorted_data pl.isList e er (PySem.W.AllAlike.of fun a b => by simp [encT, PySem.W.alike, PySem.W.alike_ints]) (.inl fun d hd => ?_) (by rw [← rl]; rw [List.length_map] at hz; exact hz) (fun r _ => ?_) fun out ho eo => ?_
  · obtain ⟨r, hr, rfl⟩ := List.mem_map.mp hd
    cases r with
    | nil => exact absurd rfl (hne [] hr)
    | cons i r => exact ⟨_, _, rfl⟩
  · unfold encT
    simp only [PyData.depth, PySem.W.depth_ints]
    omega
  · obtain ⟨c, hg⟩ := sortedAll_at s.heap (bs.map Value.ref) out.toArray
    have kk : ∀ b o, s.heap.get? b = some o → (sortedAll s.heap (bs.map Value.ref) out.toArray).get? b = some o := fun _ _ => sortedAll_old
    obtain ⟨bs', hbs', hP'⟩ : ∃ bs' : List Addr, out = bs'.map Value.ref ∧ Paired (fun b (r : List Int) => H b = some (.tup (r.map V.int))) bs' (rows.mergeSort (PySem.W.dataLe false encT)) := by
      generalize rows.mergeSort (PySem.W.dataLe false encT) = rows' at eo
      clear ho hg kk
      induction eo with
      | nil => exact ⟨[], rfl, .nil⟩
      | cons h1 t ih =>
        obtain ⟨⟨b, rfl, hb⟩, _⟩ := h1
        obtain ⟨bs', e1, e2⟩ := ih
        exact ⟨b :: bs', by rw [e1] <;> rfl, .cons hb e2⟩
    have hn : H (s.heap.objs.size + 1) = none := I.hok.fresh (Nat.le_succ _)
    refine ⟨.ref (s.heap.objs.size + 1), upd H (s.heap.objs.size + 1) (.lst (bs'.map V.ref)), I.laid (t' := s.toks) kk (Nat.le_succ _) ⟨?_, out, c, ?_, hg⟩, rfl, q _ bs' hn hP'⟩
    · have h1 : bs'.length = rows.length := by
        rw [PySem.Paired.length hP', (List.mergeSort_perm _ _).length_eq]
      rw [List.length_map, h1, ← rl]
      rw [List.length_map] at hz
      exact hz
    · rw [hbs']
      exact vals_refs bs'
end
end K81
end
section
set_option Elab.async false
set_option maxRecDepth 100000
set_option maxHeartbeats 4000000
set_option linter.all false
set_option pp.maxSteps 1500
set_option pp.deepTerms false
/-! words_machine, of_words (of one word) -/
namespace K81
open PySem PySem.Spec PyProof.Rows L2 K81M NdefX LamX
/-! ### rules with K told -/
section
variable {X : Cx} {K : PySem.W.Frag}
theorem sl_tupAk (hK : X.K = K) : SlR X (rSlA K) := by subst hK; exact sl_tupA
theorem op_eqDk (hK : X.K = K) (hu : X.A.units + 64 < cLine) : OpR X (compareOp .Eq) (rEqD K) := by subst hK; exact op_eqD hu
/-- x in a tuple of data -/
def rInTu (K : PySem.W.Frag) : R2 := fun x y H Q => ∃ d ds, Dp K H x d ∧ Dp K H y (.tuple ds) ∧ SeqAt.shaped d = true ∧ SeqAt.shaped (.tuple ds) = true ∧ Q (.bl (ds.any fun z => PyData.eqv z d)) H
theorem op_inTu (hu : X.A.units + 65 < cLine) : OpR X (compareOp .In) (rInTu X.K) := by
  intro pins s σ H x y v u Q I rx ry h
  obtain ⟨d, ds, hd, he, sd, se, q⟩ := h
  obtain ⟨as, r1⟩ := Dp.reads I d x v hd rx
  obtain ⟨bs, r2⟩ := Dp.reads I (.tuple ds) y u he ry
  exact SeqAt.in_tuple_reads r2 r1 (SeqAt.canLay_of_shaped se) (SeqAt.canLay_of_shaped sd) (room_in_shaped sd hu) ⟨.bl _, H, I, rfl, q⟩
end
/-! ### a def with its code object told -/
section
variable {P : Program} {w : World} {K : PySem.W.Frag} {mg : Str → Option Value} {base : Heap}
theorem calC (st : Stmt) {x : Str} {N ps : List Str} {k : Nat} {sp : Sp} (T : Txt K mg) (i j : Nat) (hd : fn[i]? = some { at_ := (x, none), name := x, qual := x, params := defArgs st, body := defBody st, scope := defScope st }) (hg : faG[j]? = some x) (S : FnScope N ps (defScope st))
    (bnd : ∀ (kV doc pm : Value) (an : Option Addr) (cdv ct : Value) (us : List Value), us.length = ps.length → bindArgs (PySem.W.fnOf x x (defArgs st) (defBody st) (defScope st) .none kV doc pm an cdv ct) ⟨us, []⟩ = pure (ps.zip us))
    (len : ∀ vs H Q E, sp vs H Q E → vs.length = ps.length)
    (hbody : ∀ (A : Around) (outer : List Env) (s : Shared) (H : Hp) (vs : List V) (Q : VK) (E : XK), Room k (A.deeper (envOfC x (defScope st) s.heap.objs.size (He.ga K x) (.ref (He.codeOf K (x, none))))) → sp vs H Q E →
      ∃ t, PSs (cxOf CX0 P w K mg base N x (defScope st) (He.ga K x) (.ref (He.codeOf K (x, none))) A outer s H E).nox (defBody st) t ∧ t { nx := fun _ H' => Q .non H', rt := Q } (L2.start N vs) H) : Cal P w K mg base (k + 1) x ps sp := by
  obtain ⟨fd, F0⟩ := T.d i hd
  have F : FnP K x x st (He.ga K x) fd := F0
  obtain ⟨oc, od, dV, kV, doc, pm, an, cdv, ct, osl, e, lk, hcd, _, _⟩ := F.ex
  obtain ⟨c, hc⟩ := He.codeIn_ref hcd
  have e2 : He.codeOf K (x, none) = c := He.codeOf_eq (p := (x, none)) lk (by rw [e]; exact hc)
  refine ⟨fd, ?_, F.bindsN bnd, F.kp, T.g j hg⟩
  subst e
  rw [hc, ← e2] at lk hcd
  rw [hc, ← e2]
  exact fn_of lk hcd S len fun A outer s H vs Q E hr h => by
    obtain ⟨t, d, q⟩ := hbody A outer s H vs Q E hr h
    exact ⟨t, d.nox, q⟩
end
/-! ### the tables of code objects -/
def nmAll : Nat → Nat → Str := fun line _ => if line = 196 then "words_machine.<locals>.step" else if line = 198 then "words_machine.<locals>.<lambda>" else if line = 232 then "opened_by.<locals>.step" else "opened_by.<locals>.is_let"
def Tn (K : PySem.W.Frag) : List NTab := [((He.cT K ("words_machine", none)).2, nmAll), ((He.cT K ("opened_by", none)).2, nmAll)]
structure Tbs (K : PySem.W.Frag) (mg : Str → Option Value) (base : Heap) : Prop where
  wm : TabB base mg (He.cT K ("words_machine", none)).1 (He.cT K ("words_machine", none)).2
  ob : TabB base mg (He.cT K ("opened_by", none)).1 (He.cT K ("opened_by", none)).2
theorem tn_one {K : PySem.W.Frag} {P : Addr} : ∀ p ∈ Tn K, p.1 = P → p.2 = nmAll := fun p hp _ => by
  rcases List.mem_cons.mp hp with e | hp
  · rw [e]
  · rw [List.mem_singleton.mp hp]
/-! ### one word's standings -/
def stepW (x : S) (l : Nat) : S := (x.filter fun r => decide (r.take 1 = [(l : Int)])).map fun r => r.drop 1
def islW (x : S) : Bool := decide (([] : List Int) ∈ x)
def wordL (m : Nat) (u : List Nat) : Lang := clip m fun v => decide (v = u)
def uW (u : List Nat) : List S := [] :: (List.range (u.length + 1)).map fun i => [toI (u.drop i)]
theorem stepW_one {u : List Nat} {l : Nat} : stepW [toI u] l = match u with
  | [] => []
  | a :: r => if a = l then [toI r] else [] := by
  cases u with
  | nil => rfl
  | cons a r =>
    unfold stepW
    show List.map _ (List.filter _ [(a : Int) :: toI r]) = _
    by_cases h : a = l
    · subst h
      simp
    · have h' : ¬ (a : Int) = (l : Int) := by omega
      simp [h, h']
theorem uW_closed {u : List Nat} : ∀ x ∈ uW u, ∀ l, stepW x l ∈ uW u := by
  intro x hx l
  rcases List.mem_cons.mp hx with e | hx
  · subst e
    exact List.mem_cons_self
  · obtain ⟨i, hi, rfl⟩ := List.mem_map.mp hx
    rw [stepW_one]
    have hi := List.mem_range.mp hi
    cases e : u.drop i with
    | nil => exact List.mem_cons_self
    | cons a r =>
      dsimp only
      split
      · refine List.mem_cons_of_mem _ (List.mem_map.mpr ⟨i + 1, List.mem_range.mpr ?_, ?_⟩)
        · have : (u.drop i).length = (a :: r).length := by rw [e]
          rw [List.length_drop, List.length_cons] at this
          omega
        · show [toI (u.drop (i + 1))] = [toI r]
          have e2 : u.drop (i + 1) = (u.drop i).drop 1 := by rw [List.drop_drop]
          rw [e2, e] <;> rfl
      · exact List.mem_cons_self
theorem stdW {m : Nat} {u : List Nat} : stdL m stepW islW [toI u] = wordL m u := by
  have nil : ∀ v : List Nat, v.foldl stepW [] = [] := by
    intro v
    induction v with
    | nil => rfl
    | cons l v ih => exact ih
  have key : ∀ (v u : List Nat), islW (v.foldl stepW [toI u]) = decide (v = u) := by
    intro v
    induction v with
    | nil =>
      intro u
      cases u with
      | nil => decide
      | cons a u => simp [islW, toI]
    | cons l v ih =>
      intro u
      rw [List.foldl_cons, stepW_one]
      cases u with
      | nil =>
        rw [nil]
        simp [islW]
      | cons a u =>
        dsimp only
        by_cases h : a = l
        · subst h
          rw [if_pos rfl, ih]
          simp
        · rw [if_neg h, nil]
          have h' : ¬ l = a := fun z => h z.symm
          simp [islW, h']
  unfold stdL wordL
  congr 1
  funext v
  exact key v u
theorem canon_few_std {m : Nat} {step : S → Nat → S} {isl : S → Bool} {x0 : S} {U : List S} {st : List (List Nat)} {en : List Nat} (h0 : x0 ∈ U) (hU : ∀ x ∈ U, ∀ l, l < m → step x l ∈ U) (h : Canon m (stdL m step isl x0) st en) : st.length ≤ U.length := by
  have := h.few (U.map (stdL m step isl)) (List.mem_map.mpr ⟨x0, h0, rfl⟩) fun M hM l hl => by
    obtain ⟨x, hx, rfl⟩ := List.mem_map.mp hM
    rw [der_stdL hl]
    exact List.mem_map.mpr ⟨_, hU x hx l hl, rfl⟩
  rwa [List.length_map] at this
theorem noPart {σ : L2.St} {H : Hp} {Q : Option Int → Hp → Prop} (h : Q none H) : tNoPart σ H Q := h
theorem slA_head {K : PySem.W.Frag} {H : Hp} {a : Addr} {r : List Int} {Q : VK} (h : H a = some (.tup (r.map V.int))) (q : ∀ H' t, Same H H' → H' t = some (.tup ((r.take 1).map V.int)) → Q (.ref t) H') : rSlA K (.ref a) none (some 1) H Q := by
  have e1 : HT.sIx (r.map V.int).length (r.map V.int).length (some 1) = min 1 r.length := by
    rw [List.length_map]
    exact HT.sIx_nat r.length r.length 1
  refine ⟨a, _, rfl, SqT.of h, fun hw => q H a (Same.refl _) ?_, fun hw p hp => q _ p (same_new hp) ?_⟩
  · have : min 1 r.length = r.length := by rw [← e1, hw.2, List.length_map]
    rw [List.take_of_length_le (by omega)]
    exact h
  · rw [upd_same]
    unfold cutV
    rw [e1]
    show some (HO.tup (((r.map V.int).drop 0).take (min 1 r.length - 0))) = _
    rw [List.drop_zero, Nat.sub_zero, List.map_take]
    congr 2
    have e2 : min 1 r.length = min 1 (r.map V.int).length := by rw [List.length_map]
    rw [e2, ← List.take_take, List.take_length]
theorem slA_tail {K : PySem.W.Frag} {H : Hp} {a : Addr} {r : List Int} {Q : VK} (h : H a = some (.tup (r.map V.int))) (q : ∀ H' t, Same H H' → H' t = some (.tup ((r.drop 1).map V.int)) → Q (.ref t) H') : rSlA K (.ref a) (some 1) none H Q := by
  have e1 : HT.sIx (r.map V.int).length 0 (some 1) = min 1 r.length := by
    rw [List.length_map]
    exact HT.sIx_nat r.length 0 1
  refine ⟨a, _, rfl, SqT.of h, fun hw => q H a (Same.refl _) ?_, fun hw p hp => q _ p (same_new hp) ?_⟩
  · have : min 1 r.length = 0 := by rw [← e1]; exact hw.1
    have hr : r = [] := List.length_eq_zero_iff.mp (by omega)
    subst hr
    exact h
  · rw [upd_same]
    unfold cutV
    rw [e1]
    show some (HO.tup (((r.map V.int).drop (min 1 r.length)).take ((r.map V.int).length - min 1 r.length))) = _
    rw [List.map_drop]
    congr 2
    cases r with
    | nil => rfl
    | cons i r =>
      have : min 1 (i :: r).length = 1 := by rw [List.length_cons]; omega
      rw [this, List.take_of_length_le (by rw [List.length_drop]; exact Nat.le_refl _)]
theorem eqv_ints : ∀ a b : List Int, PyData.eqv (.tuple (a.map PyData.int)) (.tuple (b.map PyData.int)) = decide (a = b) := by
  have key : ∀ a b : List Int, PyData.eqvAll (a.map PyData.int) (b.map PyData.int) = decide (a = b) := by
    intro a
    induction a with
    | nil =>
      intro b
      cases b with
      | nil => simp [PyData.eqvAll]
      | cons y b => simp [PyData.eqvAll]
    | cons x a ih =>
      intro b
      cases b with
      | nil => simp [PyData.eqvAll]
      | cons y b =>
        rw [List.map_cons, List.map_cons]
        simp only [PyData.eqvAll, PyData.eqv, ih b]
        by_cases h : x = y
        · subst h
          simp
        · simp [h]
  intro a b
  simp only [PyData.eqv, key]
section
variable {P : Program} {w : World} {K : PySem.W.Frag} {mg : Str → Option Value} {base : Heap}
def inDef (st : Stmt) (i : Nat) : Stmt := (defBody st).getD i (.Pass ⟨0, 0, 0, 0⟩)
abbrev sWStep : Stmt := inDef sWordsMachine 1
def nfW (c' : Addr) : NF := NF.of sWStep "step" "words_machine.<locals>.step" [] c'
theorem scWStep (c' : Addr) : NSc ["standing", "letter", "row"] ["standing", "letter"] [] (nfW c').scope := nsc_by (by show nscC _ _ _ (C8.fnScope sWStep) = true; decide +kernel)
theorem nok_wstep (T : Txt K mg) (u : List Nat) (m : Nat) (f c' : Addr) : NOk P w K mg base CX0 2 f (nfW c') ["standing", "letter"] [] (fun _ => spStep stepW (uW u) m) := by
  refine nok_ofM (scWStep c') (fun doc pm ctv us hl => match us, hl with | [_, _], _ => rfl) (fun ws vs H Q E h => ?_) (fun A outer s H vs ws Q E hr hws h => ?_)
  · obtain ⟨b, l, x, rfl, _⟩ := h
    rfl
  · obtain ⟨b, l, x, rfl, hT, hx, hl, k⟩ := h
    obtain rfl : ws = [] := List.length_eq_zero_iff.mp hws
    have nd := (scWStep c').nd
    have hu := hr.units
    refine ⟨_, pss_one (ps_ret (pe_callTy call_tuple_of (by rfl) (T.f 8 rfl) boot_tuple (pa_cons (pe_lc (own := [("row", 2)]) (g := gName 2) rfl nd (pi_sq (pv 0)) (blkOk_by (N := ["standing", "letter", "row"]) (sc := C8.fnScope sWStep) (by decide +kernel)) (fun _ _ _ _ _ => pg_name (i := 2) nd rfl (Or.inl rfl))
      (fun _ _ _ _ _ => pts_one (pt_cmpR (op_eqDk (K := K) rfl hu) (pe_slice (sl_tupAk (K := K) rfl) (pv 2) po_none (po_some pe_int)) (pe_tup (pa_cons (pv 1) pa_nil)) (nomark _)))
      (fun _ _ _ _ _ => pe_slice (sl_tupAk (K := K) rfl) (pv 2) (po_some pe_int) po_none)) pa_nil))), ?_⟩
    obtain ⟨as, h1, h2⟩ := id hT
    have lenA : as.length = x.length := Paired.len h2
    have lenX : x.length ≤ 1 := by
      rcases List.mem_cons.mp hx with e | hx
      · rw [e]; exact Nat.zero_le _
      · obtain ⟨i, _, rfl⟩ := List.mem_map.mp hx
        exact Nat.le_refl _
    refine ⟨_, rfl, b, _, H, rfl, .inr (SqT.of h1), fun o e => e, fun J wJ D hD => ?_⟩
    refine lc_it wJ (fun i H4 => ∃ acc, LcP H D (fun i acc Hh => ∃ as' : List Addr, acc = as'.map V.ref ∧ Paired (fun b (r : List Int) => Hh b = some (.tup (r.map V.int))) as' (stepW (x.take i) l)) i H4 acc) (lcP_start hD fun _ _ => ⟨[], rfl, .nil⟩) (fun i H4 _ ⟨acc, p⟩ => fun o e => p.all _ _ e) ?_ ?_
    · rintro i xv _ H4 hi ⟨acc, p⟩ ⟨rfl, hxv⟩
      obtain ⟨ai, hai, rfl⟩ := map_ref_get hxv
      obtain ⟨r, hr1, hr2⟩ := Paired.get h2 hai
      rw [List.length_map, lenA] at hi
      have hr4 := p.all _ _ hr2
      refine ⟨rfl, _, rfl, _, rfl, slA_head hr4 fun H5 t1 s5 ht1 => ?_⟩
      refine ⟨_, rfl, by show 1 ≤ sizeLine; decide, fun t2 ht2 => ?_⟩
      have s6 : Same H5 (upd H5 t2 (.tup [V.int (l : Int)])) := same_new ht2
      refine ⟨_, _, .tup (SqT.of (s6 _ _ ht1)) (dp_ints _), .tup (SqT.of upd_same) (dp_ints [(l : Int)]), sh_ints _, sh_ints _, _, rfl, ?_⟩
      rw [eqv_ints]
      have s7 : Same H4 (upd H5 t2 (.tup [V.int (l : Int)])) := s5.trans s6
      have est : stepW (x.take (i + 1)) l = stepW (x.take i) l ++ (if r.take 1 = [(l : Int)] then [r.drop 1] else []) := by
        unfold stepW
        rw [List.take_add_one, hr1]
        by_cases d : r.take 1 = [(l : Int)]
        · simp [d]
        · simp [d]
      obtain ⟨as', rfl, hP⟩ := p.is
      by_cases d : r.take 1 = [(l : Int)]
      · rw [decide_eq_true d]
        rw [if_pos d] at est
        refine iteT ⟨_, rfl, _, rfl, noPart (slA_tail (s7 _ _ hr4) fun H8 t3 s8 ht3 => ?_)⟩
        have s9 := s7.trans s8
        have nD : t3 ≠ D := fun z => by
          have := s9 _ _ p.at_
          rw [← z, ht3] at this
          cases this
        refine lcP_put p (n := 1) (by omega) (by decide) s9 ⟨as' ++ [t3], by rw [List.map_append] <;> rfl, ?_⟩
        rw [est]
        exact Paired.snoc (Paired.mono hP fun _ _ e => Same.hole s9 _ _ e) (by rw [hole_ne nD]; exact ht3)
      · rw [decide_eq_false d]
        rw [if_neg d, List.append_nil] at est
        refine iteF (lcP_skip p s7 ⟨as', rfl, ?_⟩)
        rw [est]
        exact Paired.mono hP fun _ _ e => Same.hole s7 _ _ e
    · rintro H4 ⟨acc, p⟩
      obtain ⟨as', rfl, hP⟩ := p.is
      rw [List.length_map, lenA, List.take_length] at hP
      refine ⟨D, _, rfl, .inl ⟨SqL.of p.at_, fun t ht => ?_⟩⟩
      exact k _ t (Same.up p.all ht) ⟨as', upd_same, Paired.mono hP fun _ _ e => (same_new ht) _ _ (hole_sub _ _ e)⟩
end
end K81
end
section
set_option Elab.async false
set_option maxRecDepth 100000
set_option maxHeartbeats 4000000
set_option linter.all false
set_option pp.maxSteps 1500
set_option pp.deepTerms false
/-! words_machine, of_words -/
namespace K81
open PySem PySem.Spec PyProof.Rows L2 K81M NdefX LamX
/-! ### what stands but for the tables of code objects -/
theorem ExtN.sqL {K : PySem.W.Frag} {H H' : Hp} {a : Addr} {xs : List V} (e : ExtN H H') (h : SqL K H a xs) : SqL K H' a xs := by
  rcases h with (h | ⟨o, h⟩) | h
  · exact .inl (.inl (e _ _ h fun _ z => nomatch z))
  · exact .inl (.inr ⟨o, e _ _ h fun _ z => nomatch z⟩)
  · exact .inr h
theorem ExtN.sqT {K : PySem.W.Frag} {H H' : Hp} {a : Addr} {xs : List V} (e : ExtN H H') (h : SqT K H a xs) : SqT K H' a xs := by
  rcases h with (h | ⟨o, h⟩) | h
  · exact .inl (.inl (e _ _ h fun _ z => nomatch z))
  · exact .inl (.inr ⟨o, e _ _ h fun _ z => nomatch z⟩)
  · exact .inr h
theorem ExtN.sq {K : PySem.W.Frag} {H H' : Hp} {a : Addr} {xs : List V} (e : ExtN H H') (h : Sq K H a xs) : Sq K H' a xs := h.imp (ExtN.sqL e) (ExtN.sqT e)
theorem ExtN.tt {H H' : Hp} {a : Addr} {rows : List (List Int)} (e : ExtN H H') (h : TT H a rows) : TT H' a rows :=
  let ⟨as, h1, h2⟩ := h; ⟨as, e _ _ h1 (fun _ z => nomatch z), Paired.mono h2 fun _ _ q => e _ _ q fun _ z => nomatch z⟩
theorem ExtN.mach {K : PySem.W.Frag} {H H' : Hp} {a : Addr} {m : Nat} {st : List (List Nat)} {en : List Nat} (e : ExtN H H') (h : Mach K H a m st en) : Mach K H' a m st en :=
  let ⟨dx, tt, te, h1, h2, h3⟩ := h; ⟨dx, tt, te, e _ _ h1 (fun _ z => nomatch z), ExtN.tt e h2, e _ _ h3 fun _ z => nomatch z⟩
theorem ExtN.rows {K : PySem.W.Frag} {H H' : Hp} {a : Addr} {rows : List (List Int)} (e : ExtN H H') (h : Rows K H a rows) : Rows K H' a rows :=
  let ⟨as, h1, h2⟩ := h; ⟨as, ExtN.sq e h1, Paired.mono h2 fun _ _ q => ExtN.sq e q⟩
section
variable {P : Program} {w : World} {K : PySem.W.Frag} {mg : Str → Option Value} {base : Heap}
theorem dp_one : SeqAt.shaped (.tuple []) = true := sh_ints []
theorem any_empty : ∀ x : S, ((x.map fun r => PyData.tuple (r.map PyData.int)).any fun z => PyData.eqv z (.tuple [])) = islW x := by
  intro x
  unfold islW
  induction x with
  | nil => rfl
  | cons r x ih =>
    rw [List.map_cons, List.any_cons, ih]
    have e : PyData.eqv (.tuple (r.map PyData.int)) (.tuple []) = decide (r = []) := eqv_ints r []
    rw [e]
    by_cases h : r = []
    · simp [h]
    · have h' : ¬ ([] : List Int) = r := fun z => h z.symm
      simp [h, h']
abbrev sWRet : Stmt := inDef sWordsMachine 2
def lamArgs : Arguments := { posonlyargs := [], args := [{ arg := "standing", annotation := none, pos := ⟨198, 47, 198, 55⟩ }], vararg := none, kwonlyargs := [], kw_defaults := [], kwarg := none, defaults := [] }
def lamBody : Expr := .Compare (.Tuple [] 0 ⟨198, 57, 198, 59⟩) [.In] [.Name "standing" ⟨198, 63, 198, 71⟩] ⟨198, 57, 198, 71⟩
def lamScope : Scope := { kind := .function, names := [("standing", .local)], isGenerator := false, isCoroutine := false, more := [] }
theorem clo_wlam (T : Txt K mg) (u : List Nat) {f c' : Addr} {s : Shared} {H : Hp} (hf : H f = some (LamO f "words_machine.<locals>.<lambda>" lamArgs lamBody lamScope c')) (hc : H c' = some (CodeO c' "words_machine.<locals>.<lambda>")) :
    Clo P w K mg base 8 f (spLet islW (uW u)) s H := by
  refine clo_lam (k := 7) (N := ["standing"]) (ps := ["standing"]) (nsc_by (by decide +kernel)) (fun pm ctv us hl => match us, hl with | [_], _ => rfl) (fun vs H Q E h => ?_) hf hc (fun A outer s H vs Q hr h => ?_)
  · obtain ⟨b, x, rfl, _⟩ := h
    rfl
  · obtain ⟨b, x, rfl, hT, hx, k⟩ := h
    obtain ⟨as, h1, h2⟩ := hT
    have hu : (mcx P w K mg base ["standing"] (nfL "words_machine.<locals>.<lambda>" lamArgs lamScope c') f A outer s H E0).A.units + 65 < cLine := by have := hr.un; show (A.deeper _).units + 65 < cLine; omega
    refine ⟨_, pe_cmpR (op_inTu hu) (pe_tup pa_nil) (pv 0) (by rfl), ?_⟩
    refine ⟨by show 0 ≤ sizeLine; decide, fun p hp => ⟨_, rfl, _, _, .tup (SqT.of upd_same) .nil, .tup (SqT.of ((same_new hp) _ _ h1)) (dp_rows (Paired.mono h2 fun _ _ q => (same_new hp) _ _ q)), dp_one, sh_rows _, ?_⟩⟩
    rw [any_empty]
    exact k _ (same_new hp)
/-! ### words_machine -/
def spWordsMachine (K : PySem.W.Frag) : Sp := fun vs H Q _ => ∃ (wl : Addr) (m : Nat) (u : List Nat), vs = [.int (m : Int), .ref wl] ∧ SqL K H wl [.str (wS u)] ∧ Wd m u ∧ u.length ≤ 50 ∧ TabsN (Tn K) H ∧
  ∀ H' p st en, ExtN H H' → TabsN (Tn K) H' → Mach K H' p m st en → Canon m (wordL m u) st en → Q (.ref p) H'
abbrev nmWM : List Str := ["letters", "words", "rows", "step", "word"]
theorem scWM : FnScope nmWM ["letters", "words"] (defScope sWordsMachine) := ⟨rfl, rfl, rfl, by decide +kernel, rfl, by decide +kernel, by decide +kernel⟩
theorem c_words_machine (T : Txt K mg) (TB : Tbs K mg base) : Cal P w K mg base 10 "words_machine" ["letters", "words"] (spWordsMachine K) := by
  refine calC sWordsMachine T 22 20 rfl rfl scWM (fun _ _ _ _ _ _ us hl => match us, hl with | [_, _], _ => rfl) (fun vs H Q E h => ?_) (fun A outer s H vs Q E hr h => ?_)
  · obtain ⟨wl, m, u, rfl, _⟩ := h
    rfl
  · obtain ⟨wl, m, u, rfl, hW, Wu, few, hT, k⟩ := h
    have nd := scWM.nd
    have hu := hr.units
    refine ⟨_, pss_cons (ps_set (i := 2) nd rfl (Or.inl rfl) (pe_callTy call_tuple_of (by rfl) (T.f 8 rfl) boot_tuple (pa_cons (pe_callB (cr_sorted1 rfl hu) (by rfl) (T.f 1 rfl) boot_sorted (pa_cons (pe_callTy (cr_setOfT rfl hu) (by rfl) (T.f 2 rfl) boot_set
        (pa_cons (pe_lc (own := [("word", 4)]) (g := gName 4) (tt := tYes) rfl nd (pi_list (pv 1)) (blkOk_by (N := nmWM) (sc := defScope sWordsMachine) (by decide +kernel)) (fun _ _ _ _ _ => pg_name (i := 4) nd rfl (Or.inl rfl)) (fun _ _ _ _ _ => pts_nil)
          (fun _ _ _ _ _ => pe_c (c_spots T) hr (by decide) (pa_cons (pv 4) pa_nil))) pa_nil)) pa_nil)) pa_nil)))
      (pss_cons (ps_ndefS (T := Tn K) (nm := nmAll) (st := sWStep) (name := "step") (pos := ⟨196, 4, 197, 75⟩) (i := 3) rfl TB.wm rfl List.mem_cons_self (by show _ = (("words_machine" : Str) ++ ".<locals>.") ++ "step"; decide +kernel) tn_one (ndef_free (sc := defScope sWordsMachine) (nsc := C8.fnScope sWStep) (fr := []) (by decide +kernel)) rfl rfl rfl nd rfl (Or.inl rfl) (Or.inr rfl))
      (pss_one (ps_ret (pe_cS (c_by_lots T) hr (by decide) (pa_cons (pv 0) (pa_cons (pv 2) (pa_cons (pv 3) (pa_cons (pe_lam (T := Tn K) (nm := nmAll) TB.wm rfl List.mem_cons_self (by show _ = (("words_machine" : Str) ++ ".<locals>.") ++ "<lambda>"; decide +kernel) tn_one rfl (by decide +kernel)) pa_nil))))))))
      , ?_⟩
    refine ⟨_, rfl, wl, rfl, ⟨_, hW⟩, fun D hD => ?_⟩
    refine lc_list (xs := [V.str (wS u)]) (fun i H4 => ∃ acc, LcP H D (fun i acc Hh => (i = 0 → acc = []) ∧ (i = 1 → ∃ t, acc = [V.ref t] ∧ Hh t = some (.tup ((toI u).map V.int)))) i H4 acc) (lcP_start hD fun _ _ => ⟨fun _ => rfl, fun z => nomatch z⟩) (fun i H4 _ ⟨acc, p⟩ => p.all.seq hW) ?_ ?_
    · rintro i x H4 hx ⟨acc, p⟩
      have hi : i = 0 := by
        have := (List.getElem?_eq_some_iff.mp hx).1
        simpa using this
      subst hi
      obtain rfl : V.str (wS u) = x := Option.some.inj hx
      refine ⟨rfl, yesT ⟨_, rfl, u, rfl, fun l hl => by have := Wu.all l hl; have := Wu.m3; omega, Wu.few, fun H5 t s5 ht0 ht => ?_⟩⟩
      have nD : t ≠ D := fun z => by
        rw [z] at ht0
        have := p.at_
        rw [ht0] at this
        cases this
      refine lcP_put p (n := 1) (by decide) (by decide) s5 ⟨(fun z => nomatch z), fun _ => ⟨t, ?_, ?_⟩⟩
      · rw [p.is.1 rfl] <;> rfl
      · rw [hole_ne nD]
        exact ht
    rintro H4 ⟨acc, p⟩
    obtain ⟨t, rfl, ht⟩ := p.is.2 rfl
    have ht4 := hole_sub _ _ ht
    refine ⟨D, [(t, toI u)], rfl, SqL.of p.at_, (fun q hq => by rw [List.mem_singleton.mp hq]; exact SqT.of ht4), by show 1 < 64; decide, fun a L ha hsub hall => ?_⟩
    have s5 : Same H4 (upd H4 a (SetTO P w a L)) := same_new ha
    refine ⟨a, t, L, toI u, rfl, upd_same, fun q hq => List.mem_singleton.mp (hsub q hq), fun z => ?_, s5 _ _ ht4, fun p2 hp2 => ?_⟩
    · have := hall (t, toI u) List.mem_cons_self
      rw [z] at this
      cases this
    have s6 := Same.up (o := .lst [V.ref t]) s5 hp2
    refine ⟨p2, _, rfl, .inl ⟨SqL.of upd_same, fun tt htt => ?_⟩⟩
    have s7 := Same.up (o := .tup [V.ref t]) s6 htt
    have hTT : TT _ tt [toI u] := ⟨[t], upd_same, .cons (s7 _ _ ht4) .nil⟩
    have s8 := p.all.trans s7
    -- def step
    refine ⟨hT.ext s8, fun f c' H1 e1 tabs1 hf0 hf1 hc1 => ?_⟩
    have hq : ((("words_machine" : Str) ++ ".<locals>.") ++ "step") = "words_machine.<locals>.step" := by decide +kernel
    have hql : ((("words_machine" : Str) ++ ".<locals>.") ++ "<lambda>") = "words_machine.<locals>.<lambda>" := by decide +kernel
    have hf2 : H1 f = some (FnO f (nfW c')) := hf1.trans (congrArg (fun q => some (FnO f (NF.of sWStep "step" q [] c'))) hq)
    have hc2 : H1 c' = some (CodeO c' (nfW c').qual) := hc1.trans (congrArg (fun q => some (CodeO c' q)) hq)
    refine ⟨_, rfl, _, rfl, _, rfl, tabs1, fun fl cl H2 e2 tabs2 hfl0 hfl hcl pins s' I => ?_⟩
    have hfl2 : H2 fl = some (LamO fl "words_machine.<locals>.<lambda>" lamArgs lamBody lamScope cl) := hfl.trans (congrArg (fun q => some (LamO fl q lamArgs lamBody lamScope cl)) hql)
    have hcl2 : H2 cl = some (CodeO cl "words_machine.<locals>.<lambda>") := hcl.trans (congrArg (fun q => some (CodeO cl q)) hql)
    have hx0 : [toI u] ∈ uW u := List.mem_cons_of_mem _ (List.mem_map.mpr ⟨0, List.mem_range.mpr (Nat.succ_pos _), rfl⟩)
    have lenU : (uW u).length = u.length + 2 := by unfold uW; rw [List.length_cons, List.length_map, List.length_range]
    refine ⟨tt, f, fl, m, [toI u], stepW, islW, uW u, rfl, Wu.m1, Wu.m3, ExtN.tt e2 (ExtN.tt e1 hTT), hx0, fun x hx l _ => uW_closed x hx l, by omega, clo_nok (ws := []) ((nok_wstep T u m f c').mono (by decide)) (e2 _ _ hf2 fnO_ne) (e2 _ _ hc2 codeO_ne) cells_nil, clo_wlam T u hfl2 hcl2, fun st' en' hC => ?_, fun H' p3 st' en' s9 hM hC => ?_⟩
    · have := canon_few_std hx0 (fun x hx l _ => uW_closed x hx l) hC
      omega
    · rw [stdW] at hC
      exact k H' p3 st' en' ((ExtN.of s8).trans (e1.trans (e2.trans (ExtN.of s9)))) (tabs2.ext s9) hM hC
/-! ### of_words, of one word -/
def spOfWords (K : PySem.W.Frag) : Sp := fun vs H Q _ => ∃ (wl : Addr) (m : Nat) (u : List Nat), vs = [.int (m : Int), .ref wl] ∧ SqL K H wl [.str (wS u)] ∧ Wd m u ∧ u.length ≤ 50 ∧ TabsN (Tn K) H ∧
  ∀ H' p st en, ExtN H H' → TabsN (Tn K) H' → Mach K H' p m st en → Canon m (wordL m u) st en → Q (.ref p) H'
abbrev nmOW : List Str := ["letters", "words", "word"]
theorem scOW : FnScope nmOW ["letters", "words"] (defScope sOfWords) := ⟨rfl, rfl, rfl, by decide +kernel, rfl, by decide +kernel, by decide +kernel⟩
theorem c_of_words (T : Txt K mg) (TB : Tbs K mg base) : Cal P w K mg base 11 "of_words" ["letters", "words"] (spOfWords K) := by
  refine cal sOfWords T 23 21 rfl rfl scOW (fun _ _ _ _ _ _ us hl => match us, hl with | [_, _], _ => rfl) (fun vs H Q E h => ?_) (fun cdv A outer s H vs Q E hr h => ?_)
  · obtain ⟨wl, m, u, rfl, _⟩ := h
    rfl
  · obtain ⟨wl, m, u, rfl, hW, Wu, few, hT, k⟩ := h
    have nd := scOW.nd
    refine ⟨_, pss_cons (ps_expr (pe_c (c_want_letters T) hr (by decide) (pa_cons (pv 0) pa_nil)))
      (pss_cons (ps_if (PW.pt (pw_or (pt_not (pt_val (pe_c (c_is_list T) hr (by decide) (pa_cons (pv 1) pa_nil)))) (pw_or (pt_cmpR op_gt (pe_callB call_len_seq (by rfl) (T.f 0 rfl) boot_len (pa_cons (pv 1) pa_nil)) (pe_gint T.i20) (nomark _))
        (pw_or1 (pt_not (pt_val (pe_callB (cr_all rfl) (by rfl) (T.f 9 rfl) boot_all (pa_cons (pe_lc (own := [("word", 2)]) (g := gName 2) (tt := tYes) rfl nd (pi_list (pv 1)) (blkOk_by (N := nmOW) (sc := defScope sOfWords) (by decide +kernel)) (fun _ _ _ _ _ => pg_name (i := 2) nd rfl (Or.inl rfl)) (fun _ _ _ _ _ => pts_nil)
          (fun _ _ _ _ _ => pe_c (c_is_word_of T) hr (by decide) (pa_cons (pv 0) (pa_cons (pv 2) pa_nil)))) pa_nil)))))))) (pss_one ps_never) pss_nil)
      (pss_one (ps_ret (pe_c (c_words_machine T TB) hr (by decide) (pa_cons (pv 0) (pa_cons (pv 1) pa_nil)))))), ?_⟩
    have := Wu.m1
    have := Wu.m3
    refine ⟨_, rfl, _, rfl, by omega, by omega, ?_⟩
    refine ⟨_, rfl, wl, _, rfl, .inl hW, fun H1 s1 => ⟨true, rfl, iteF ?_⟩⟩
    refine ⟨_, rfl, wl, _, rfl, .inl (s1.seq hW), _, _, rfl, rfl, false, rfl, iteF ?_⟩
    refine ⟨_, rfl, wl, rfl, ⟨_, s1.seq hW⟩, fun D hD => ?_⟩
    refine lc_list (xs := [V.str (wS u)]) (fun i H4 => ∃ acc, LcP H1 D (fun i acc Hh => acc = (List.replicate i true).map V.bl) i H4 acc) (lcP_start hD fun _ _ => rfl) (fun i H4 _ ⟨acc, p⟩ => p.all.seq (s1.seq hW)) ?_ ?_
    · rintro i x H4 hx ⟨acc, p⟩
      have hi : i = 0 := by
        have := (List.getElem?_eq_some_iff.mp hx).1
        simpa using this
      subst hi
      obtain rfl : V.str (wS u) = x := Option.some.inj hx
      refine ⟨rfl, yesT ⟨_, rfl, _, rfl, m, u, rfl, Wu, fun H5 s5 => ?_⟩⟩
      refine lcP_put p (n := 1) (by decide) (by decide) s5 ?_
      rw [p.is] <;> rfl
    rintro H4 ⟨acc, p⟩
    have s4 := s1.trans p.all
    refine ⟨D, [true], rfl, SqL.of (by rw [p.at_, p.is] <;> rfl), true, rfl, iteF ?_⟩
    exact ⟨_, rfl, _, rfl, wl, m, u, rfl, s4.seq hW, Wu, few, hT.ext s4, fun H' p3 st en e5 tabs hM hC => k H' p3 st en ((ExtN.of s4).trans e5) tabs hM hC⟩
end
end K81
end
section
set_option Elab.async false
set_option maxRecDepth 100000
set_option maxHeartbeats 4000000
set_option linter.all false
set_option pp.maxSteps 1500
set_option pp.deepTerms false
/-! enumerate over a list or a tuple -/
namespace K81
open PySem PySem.Spec PyProof.Rows L2
section
variable {prog : Program} {w : World} {A : Around} {E : Value → Shared → Prop} {s : Shared}
theorem call_enumerate_tuple {l : Addr} {items : Array Value} {Q : Value → Shared → Prop} (hL : s.heap.IsTuple l items)
    (h : ∀ h', IsEnum h' (s.heap.objs.size + 1) s.heap.objs.size 0 .none → h'.IsTupleIter s.heap.objs.size l 0 → h'.objs.size = s.heap.objs.size + 2 →
      (∀ b o, s.heap.get? b = some o → h'.get? b = some o) → Q (.ref (s.heap.objs.size + 1)) { s with heap := h' }) :
    wpAny (model prog w) A (call (.type "enumerate") [.ref l]) Q E s := by
  refine callType_new F.called_enumerate (by decide) (F.typeCall_enumerate_1 _) (F.newCall_enumerate_1 _) (fun obj => F.args_object_init_2 obj _) F.entry_enumerate_new
    (meets_enumerate_newB (PySem.begins_tuple l items) 0 0 rfl) ⟨hL, ?_⟩
  have hz : (s.heap.push { cls := .type "tuple_iterator", data := .fields #[.ref l, .int 0 0] }).objs.size = s.heap.objs.size + 1 := Heap.size_push ..
  show _ ∧ _
  rw [hz]
  have he : IsEnum ((s.heap.push { cls := .type "tuple_iterator", data := .fields #[.ref l, .int 0 0] }).push
      { cls := .type "enumerate", data := .fields #[.none, .bool false, .ref s.heap.objs.size, rawInt 0, .none, .none] }) (s.heap.objs.size + 1) s.heap.objs.size 0 .none := by
    have := Heap.get?_push_size (s.heap.push { cls := .type "tuple_iterator", data := .fields #[.ref l, .int 0 0] })
      (o := { cls := .type "enumerate", data := .fields #[.none, .bool false, .ref s.heap.objs.size, rawInt 0, .none, .none] }) rfl
    rw [hz] at this; exact this
  refine ⟨⟨_, he, rfl⟩, h _ he ⟨_, Heap.get?_push_of_some _ (Heap.get?_push_size _ rfl), rfl, rfl⟩ (by rw [Heap.size_push, hz]) fun b o x => Heap.get?_push_of_some _ (Heap.get?_push_of_some _ x)⟩
end
/-- the tuple at a, each item in a new pair -/
def Itet (K : PySem.W.Frag) (a : Addr) : It :=
  ⟨fun i H => ∃ (xs : List V) (x : V), SqT K H a xs ∧ xs[i]? = some x, fun i H v H' => ∃ T x, v = .ref T ∧ H T = none ∧ H' = upd H T (.tup [.int (i : Nat), x]) ∧ ∀ xs, SqT K H a xs → xs[i]? = some x, fun i H => ∃ xs : List V, SqT K H a xs ∧ xs.length = i⟩
theorem turn_enumT {P : Program} {w : World} {K : PySem.W.Frag} {elts : List Expr} {kk : Nat} {tpos : Pos} (a e it : Addr) :
    Turn P w K (.Tuple elts kk tpos) (Itet K a) [e, it] e (fun i h => (∃ old, IsEnum h e it ((i : Nat) : Int) old) ∧ h.IsTupleIter it a i ∧ e ≠ it) where
  mem := by simp
  obj := fun i h st b hb => by
    obtain ⟨⟨old, he⟩, ⟨o, ho, hc, hd⟩, _⟩ := st
    have e' : b = e ∨ b = it := by simpa using hb
    rcases e' with z | z
    · rw [z]; exact ⟨_, he, fun v q => nomatch q⟩
    · rw [z]; exact ⟨o, ho, fun v q => by rw [hd] at q; cases q⟩
  keep := fun i h h' st k => let ⟨⟨old, he⟩, hi, hne⟩ := st; ⟨⟨old, k e (by simp) _ he⟩, hi.at fun o q => k it (by simp) o q, hne⟩
  item := by
    intro X hP hw hK hc i pins s σ H E I hf st hg
    subst hP hw hK
    obtain ⟨⟨old, he⟩, hit, hne⟩ := st
    obtain ⟨xs, x, hq, hx⟩ := hg
    obtain ⟨its, rv, p, hz⟩ := I.tuple hq
    obtain ⟨u, hu, ru⟩ := rv.get hx
    have hel : e < s.heap.objs.size := Heap.lt_size he
    have hil : it < s.heap.objs.size := by obtain ⟨_, q, _⟩ := hit; exact Heap.lt_size q
    have hp : s.heap.IsTuple a its.toArray := p
    have hai : a ≠ it := by
      intro z
      obtain ⟨o1, e1, c1, _⟩ := id hit
      obtain ⟨o2, e2, c2, _⟩ := id hp
      rw [z, e1] at e2
      cases e2
      rw [c1] at c2
      exact absurd (Value.type.inj c2) (by decide)
    have hae : a ≠ e := by
      intro z
      obtain ⟨o2, e2, c2, _⟩ := id hp
      rw [z, he] at e2
      cases e2
      exact absurd (Value.type.inj c2) (by decide)
    have hlt : i < its.length := (List.getElem?_eq_some_iff.mp hu).1
    refine wpAny_pyNext_enum_itemD (PySem.Draws.tuple (A := X.A.in1) (I.ok.hd hc) it a hai its.toArray) he ⟨hit, hp⟩ (by simpa using hlt) hne (by simp; exact ⟨hne, fun z => hae z.symm⟩) fun x' h' tk hP' ho hst' hT hsz hk => ?_
    obtain rfl : x' = u := by
      have := hP'.symm.trans (show its.toArray[i]? = some u by simpa using hu)
      exact Option.some.inj this
    refine ⟨_, rfl, wpAny_letOwnedTupleGo_enum (s := { s with heap := h', toks := tk + 1 }) ho fun h'' he' sb => ?_⟩
    have hT2 : h''.get? s.heap.objs.size = some { cls := .type "tuple", data := .seq #[.int i tk, x'] } := (sb.2 _ (Nat.ne_of_gt hel)).trans hT
    have new : ObjOk X.prog X.w (upd H s.heap.objs.size (.tup [.int (i : Nat), x])) h'' s.heap.objs.size (.tup [.int (i : Nat), x]) :=
      ⟨by show 2 ≤ sizeLine; decide, [.int i tk, x'], .cons ⟨_, rfl⟩ (.cons ru .nil), ⟨_, hT2, rfl, _, rfl⟩⟩
    have I1 : Inv X pins σ (upd H s.heap.objs.size (.tup [.int (i : Nat), x])) { s with heap := h'', toks := tk + 1 } :=
      I.turnedNew (ch := [e, it]) (fun b ob hb q => (sb.2 b (fun z => hb (by simp [z]))).trans (hk b ob (fun z => hb (by simp [z])) (fun z => hb (by simp [z])) q)) hf (Nat.le_refl _) new
    refine ⟨.ref s.heap.objs.size, _, I1, rfl, ⟨_, x, rfl, I.hok.fresh (Nat.le_refl _), rfl, fun ys hy => by rw [I.tuple_inj hy hq]; exact hx⟩, ⟨⟨x', ?_⟩, hst'.1.at fun o q => (sb.2 it (Ne.symm hne)).trans q, hne⟩, fun b hb => ?_⟩
    · have e1 : ((i + 1 : Nat) : Int) = (i : Int) + 1 := by omega
      rw [e1]; exact he'
    · have hb' : b < s.heap.objs.size := by
        have e' : b = e ∨ b = it := by simpa using hb
        rcases e' with z | z
        · rw [z]; exact hel
        · rw [z]; exact hil
      rw [upd_ne (Nat.ne_of_lt hb')]
      exact (hf b hb).1
  done := by
    intro X hP hw hK hc i pins s σ H E I hf st hg
    subst hP hw hK
    obtain ⟨⟨old, he⟩, hit, hne⟩ := st
    obtain ⟨xs, hq, hx⟩ := hg
    obtain ⟨its, rv, p, hz⟩ := I.tuple hq
    obtain ⟨f0, f1, f2, f3, f4, f5⟩ := hf it (by simp)
    have hl := rv.length
    have hp : s.heap.IsTuple a its.toArray := p
    have hai : a ≠ it := by
      intro z
      obtain ⟨o1, e1, c1, _⟩ := id hit
      obtain ⟨o2, e2, c2, _⟩ := id hp
      rw [z, e1] at e2
      cases e2
      rw [c1] at c2
      exact absurd (Value.type.inj c2) (by decide)
    have hsz : i = its.toArray.size := by simp; omega
    subst hsz
    have D := PySem.Draws.tuple (prog := X.prog) (w := X.w) (A := X.A.in1) (I.ok.hd hc) it a hai its.toArray
    exact wpAny_pyNext_enum_endD D he ⟨hit, hp⟩ fun h' eb => ⟨rfl, I.turned (t' := s.toks) (fun b o hb q => eb b o hb q) f0 f1 f3 f4 f5⟩
  self := fun A i s Q E st h => let ⟨⟨_, he⟩, _⟩ := st; wpAny_pyIter_enum he h
/-! ### for i, x in enumerate of a list or a tuple -/
/-- a new pair of the place and the item -/
def YEn (xs : List V) : Nat → Hp → V → Hp → Prop := fun i H v H' => ∃ T x, v = .ref T ∧ H T = none ∧ H' = upd H T (.tup [.int (i : Nat), x]) ∧ xs[i]? = some x
def iEnSq (K : PySem.W.Frag) (tl : TA) : TI := fun σ H R => tl σ H fun vs H1 => ∃ a xs H0, vs = [.ref a] ∧ Sq K H0 a xs ∧ Stood a H0 H1 ∧ ∀ J, Walk J xs.length (Stood a H0) (YEn xs) → R J H1
theorem walk_enL {K : PySem.W.Frag} {a : Addr} {xs : List V} : Walk (Ite K a) xs.length (fun H => SqL K H a xs) (YEn xs) :=
  ⟨fun i _ hi q => ⟨xs, xs[i], q, by simp [hi]⟩, fun _ q => ⟨xs, q, Nat.le_refl _⟩, fun _ _ _ _ _ q ⟨T, x, e1, e2, e3, y⟩ => ⟨T, x, e1, e2, e3, y xs q⟩⟩
theorem walk_enT {K : PySem.W.Frag} {a : Addr} {xs : List V} : Walk (Itet K a) xs.length (fun H => SqT K H a xs) (YEn xs) :=
  ⟨fun i _ hi q => ⟨xs, xs[i], q, by simp [hi]⟩, fun _ q => ⟨xs, q, rfl⟩, fun _ _ _ _ _ q ⟨T, x, e1, e2, e3, y⟩ => ⟨T, x, e1, e2, e3, y xs q⟩⟩
theorem pi_enSq {X : Cx} {K : PySem.W.Frag} {e : Expr} {ta : TA} {p pos tpos : Pos} {elts : List Expr} {kk : Nat} (hK : X.K = K) (hg : Gl X "enumerate") (hm : X.mg "enumerate" = none) (ha : PA X [e] ta) (hs : starEach [e] X.env = [(false, eval e X.env)] := by rfl) :
    PI X (.Tuple elts kk tpos) (.Call (.Name "enumerate" p) [e] [] pos) (iEnSq K ta) := by
  subst hK
  refine ⟨fun pins s σ H R I h => ?_⟩
  refine Call_ (ld_blt I hg hm boot_enumerate (PyProof.Rows.callWith_type1 (thn (ha.run pos pins s σ H _ I h) fun us s1 ⟨vs, H1, I1, r1, q1⟩ => ?_) hs rfl))
  obtain ⟨a, xs, H0, ex, hq, e0, q⟩ := q1
  subst ex
  cases r1 with
  | cons r rr =>
    cases rr
    cases r
    have fp : ∀ b ∈ [s1.heap.objs.size + 1, s1.heap.objs.size], FpOk X pins H1 b := fun b hb => by
      have e' : b = s1.heap.objs.size + 1 ∨ b = s1.heap.objs.size := by simpa using hb
      have hle : s1.heap.objs.size ≤ b := by
        rcases e' with z | z
        · rw [z]; exact Nat.le_add_right _ _
        · rw [z]; exact Nat.le_refl _
      exact I1.fpOk hle (I1.hok.fresh hle)
    rcases hq with hq | hq
    · obtain ⟨its, rv, p', hz⟩ := I1.list (SqL.stood hq e0)
      refine call_enumerate_list p'.isList fun h' he hit hsz hk => wpAny_pyIter_enum he ?_
      have I2 : Inv X pins σ H1 { s1 with heap := h' } := I1.kept (t' := s1.toks) hk
      exact ⟨s1.heap.objs.size + 1, [s1.heap.objs.size + 1, s1.heap.objs.size], _, _, H1, rfl, I2, turn_enum a (s1.heap.objs.size + 1) s1.heap.objs.size, ⟨⟨.none, he⟩, hit, Nat.succ_ne_self _⟩, fp, q _ (walk_enL.mono (fun H e => SqL.stood hq e) fun _ _ _ _ _ _ y => y)⟩
    · obtain ⟨its, rv, p', hz⟩ := I1.tuple (SqT.stood hq e0)
      refine call_enumerate_tuple (show s1.heap.IsTuple a its.toArray from p') fun h' he hit hsz hk => wpAny_pyIter_enum he ?_
      have I2 : Inv X pins σ H1 { s1 with heap := h' } := I1.kept (t' := s1.toks) hk
      exact ⟨s1.heap.objs.size + 1, [s1.heap.objs.size + 1, s1.heap.objs.size], _, _, H1, rfl, I2, turn_enumT a (s1.heap.objs.size + 1) s1.heap.objs.size, ⟨⟨.none, he⟩, hit, Nat.succ_ne_self _⟩, fp, q _ (walk_enT.mono (fun H e => SqT.stood hq e) fun _ _ _ _ _ _ y => y)⟩
end K81
end
section
set_option Elab.async false
set_option linter.all false
/-! Closures of standings. -/
namespace K81M
abbrev T3 : Type := List Int
abbrev Vw : Type := List (List (List Nat) × List Nat)
def epsTo (r : List Int) (n : Nat) : List T3 := (List.range n).filterMap fun i => if 0 ≤ r.getD i 0 then some [r.getD i 0, (i : Int), 0] else none
def eps (vw : Vw) (rows : List (List Int)) : T3 → List T3
  | [q, v, s] => if v < 0 then epsTo (rows.getD q.toNat []) (rows.getD q.toNat []).length else if s.toNat ∈ (vw.getD v.toNat ([], [])).2 then [[q, -1, 0]] else []
  | _ => []
def univ (vw : Vw) (n : Nat) : List T3 := (List.range n).flatMap fun (q : Nat) => ([(q : Int), -1, 0] : T3) :: (List.range vw.length).flatMap fun (v : Nat) => (List.range (vw.getD v ([], [])).1.length).map fun (s : Nat) => ([(q : Int), (v : Int), (s : Int)] : T3)
theorem mem_univ {vw : Vw} {n : Nat} {t : T3} : t ∈ univ vw n ↔ ∃ q : Nat, q < n ∧ (t = [(q : Int), -1, 0] ∨ ∃ v s : Nat, v < vw.length ∧ s < (vw.getD v ([], [])).1.length ∧ t = [(q : Int), (v : Int), (s : Int)]) := by
  unfold univ
  rw [List.mem_flatMap]
  constructor
  · rintro ⟨q, hq, h⟩
    refine ⟨q, List.mem_range.mp hq, ?_⟩
    rcases List.mem_cons.mp h with h | h
    · exact .inl h
    · obtain ⟨v, hv, h⟩ := List.mem_flatMap.mp h
      obtain ⟨s, hs, h⟩ := List.mem_map.mp h
      exact .inr ⟨v, s, List.mem_range.mp hv, List.mem_range.mp hs, h.symm⟩
  · rintro ⟨q, hq, h⟩
    refine ⟨q, List.mem_range.mpr hq, ?_⟩
    rcases h with h | ⟨v, s, hv, hs, h⟩
    · rw [h]; exact List.mem_cons_self
    · exact List.mem_cons_of_mem _ (List.mem_flatMap.mpr ⟨v, List.mem_range.mpr hv, List.mem_map.mpr ⟨s, List.mem_range.mpr hs, h.symm⟩⟩)
/-- what the rows and views must be -/
structure Wf (vw : Vw) (rows : List (List Int)) : Prop where
  row : ∀ r ∈ rows, r.length = vw.length
  ent : ∀ r ∈ rows, ∀ x ∈ r, -1 ≤ x ∧ x < rows.length
  pos : ∀ v ∈ vw, 0 < v.1.length
theorem mem_epsTo {r : List Int} {n : Nat} {t : T3} : t ∈ epsTo r n ↔ ∃ i : Nat, i < n ∧ 0 ≤ r.getD i 0 ∧ t = [r.getD i 0, (i : Int), 0] := by
  unfold epsTo
  rw [List.mem_filterMap]
  constructor
  · rintro ⟨i, hi, h⟩
    split at h
    · rename_i c
      exact ⟨i, List.mem_range.mp hi, c, (Option.some.inj h).symm⟩
    · cases h
  · rintro ⟨i, hi, c, h⟩
    exact ⟨i, List.mem_range.mpr hi, by rw [if_pos c, h]⟩
theorem epsTo_succ {r : List Int} {n : Nat} : epsTo r (n + 1) = epsTo r n ++ if 0 ≤ r.getD n 0 then [[r.getD n 0, (n : Int), 0]] else [] := by
  unfold epsTo
  rw [List.range_succ, List.filterMap_append]
  congr 1
  by_cases c : 0 ≤ r.getD n 0
  · rw [List.filterMap_cons, List.filterMap_nil, if_pos c, if_pos c]
  · rw [List.filterMap_cons, List.filterMap_nil, if_neg c, if_neg c]
theorem eps_neg {vw : Vw} {rows : List (List Int)} {q : Nat} : eps vw rows [(q : Int), -1, 0] = epsTo (rows.getD q []) (rows.getD q []).length := rfl
theorem eps_pos {vw : Vw} {rows : List (List Int)} {q v s : Nat} : eps vw rows [(q : Int), (v : Int), (s : Int)] = if s ∈ (vw.getD v ([], [])).2 then [[(q : Int), -1, 0]] else [] := by
  have h : ¬ ((v : Int) < 0) := by omega
  simp only [eps, if_neg h, Int.toNat_natCast]
theorem eps_ok {vw : Vw} {rows : List (List Int)} (W : Wf vw rows) {t : T3} (h : t ∈ univ vw rows.length) : ∀ y ∈ eps vw rows t, y ∈ univ vw rows.length := by
  intro y hy
  obtain ⟨q, hq, h | ⟨v, s, hv, hs, h⟩⟩ := mem_univ.mp h
  · subst h
    rw [eps_neg] at hy
    obtain ⟨i, hi, c, rfl⟩ := mem_epsTo.mp hy
    have er : rows.getD q [] = rows[q] := by rw [List.getD_eq_getElem?_getD, List.getElem?_eq_getElem hq] <;> rfl
    rw [er] at hi c ⊢
    have hr := List.getElem_mem hq
    have ei : rows[q].getD i 0 = rows[q][i] := by rw [List.getD_eq_getElem?_getD, List.getElem?_eq_getElem hi] <;> rfl
    rw [ei] at c ⊢
    have := W.ent _ hr _ (List.getElem_mem hi)
    have hv : i < vw.length := by rw [← W.row _ hr]; exact hi
    refine mem_univ.mpr ⟨(rows[q][i]).toNat, by omega, .inr ⟨i, 0, hv, ?_, ?_⟩⟩
    · rw [List.getD_eq_getElem?_getD, List.getElem?_eq_getElem hv]
      exact W.pos _ (List.getElem_mem hv)
    · rw [Int.toNat_of_nonneg c] <;> rfl
  · subst h
    rw [eps_pos] at hy
    split at hy
    · rw [List.mem_singleton.mp hy]
      exact mem_univ.mpr ⟨q, hq, .inl rfl⟩
    · cases hy
inductive Rch (e : T3 → List T3) (st : List T3) : T3 → Prop
  | base {t : T3} : t ∈ st → Rch e st t
  | step {t y : T3} : Rch e st t → y ∈ e t → Rch e st y
theorem Rch.sub {e : T3 → List T3} {st : List T3} {o : List T3} (h0 : ∀ t ∈ st, t ∈ o) (h1 : ∀ t ∈ o, ∀ y ∈ e t, y ∈ o) {t : T3} (h : Rch e st t) : t ∈ o := by
  induction h with
  | base h => exact h0 _ h
  | step _ hy ih => exact h1 _ ih _ hy
/-! ### sorted, told by the members -/
theorem sorted_unique {le : T3 → T3 → Bool} (anti : ∀ a b, le a b = true → le b a = true → a = b) : ∀ {xs ys : List T3}, xs.Pairwise (fun a b => le a b = true) → ys.Pairwise (fun a b => le a b = true) → xs.Nodup → ys.Nodup → (∀ t, t ∈ xs ↔ t ∈ ys) → xs = ys := by
  intro xs
  induction xs with
  | nil =>
    intro ys _ _ _ _ h
    cases ys with
    | nil => rfl
    | cons y ys => exact absurd ((h y).mpr List.mem_cons_self) (by simp)
  | cons x xs ih =>
    intro ys h1 h2 n1 n2 h
    cases ys with
    | nil => exact absurd ((h x).mp List.mem_cons_self) (by simp)
    | cons y ys =>
      have hx := List.pairwise_cons.mp h1
      have hy := List.pairwise_cons.mp h2
      have nx := List.nodup_cons.mp n1
      have ny := List.nodup_cons.mp n2
      have e : x = y := by
        rcases List.mem_cons.mp ((h x).mp List.mem_cons_self) with e | m1
        · exact e
        rcases List.mem_cons.mp ((h y).mpr List.mem_cons_self) with e | m2
        · exact e.symm
        exact anti _ _ (hx.1 _ m2) (hy.1 _ m1)
      subst e
      congr 1
      refine ih hx.2 hy.2 nx.2 ny.2 fun t => ⟨fun ht => ?_, fun ht => ?_⟩
      · rcases List.mem_cons.mp ((h t).mp (List.mem_cons_of_mem _ ht)) with e | m
        · subst e; exact absurd ht nx.1
        · exact m
      · rcases List.mem_cons.mp ((h t).mpr (List.mem_cons_of_mem _ ht)) with e | m
        · subst e; exact absurd ht ny.1
        · exact m
/-- the members as a sorted list -/
structure LeOk (le : T3 → T3 → Bool) : Prop where
  trans : ∀ a b c, le a b = true → le b c = true → le a c = true
  total : ∀ a b, (le a b || le b a) = true
  anti : ∀ a b, le a b = true → le b a = true → a = b
theorem sort_same {le : T3 → T3 → Bool} (L : LeOk le) {xs ys : List T3} (n1 : xs.Nodup) (n2 : ys.Nodup) (h : ∀ t, t ∈ xs ↔ t ∈ ys) : xs.mergeSort le = ys.mergeSort le := by
  refine sorted_unique L.anti (List.pairwise_mergeSort L.trans L.total xs) (List.pairwise_mergeSort L.trans L.total ys) ?_ ?_ fun t => ?_
  · exact (List.mergeSort_perm xs le).nodup_iff.mpr n1
  · exact (List.mergeSort_perm ys le).nodup_iff.mpr n2
  · rw [(List.mergeSort_perm xs le).mem_iff, (List.mergeSort_perm ys le).mem_iff]
    exact h t
theorem mem_dd {xs : List T3} {t : T3} : t ∈ addAll [] xs ↔ t ∈ xs := by
  rw [addAll_mem]
  simp
open Classical in
/-- the sorted list of what is reached from st -/
noncomputable def cloL (le : T3 → T3 → Bool) (vw : Vw) (rows : List (List Int)) (st : List T3) : List T3 :=
  ((addAll [] (univ vw rows.length)).filter fun t => decide (Rch (eps vw rows) st t)).mergeSort le
open Classical in
theorem mem_cloL {le : T3 → T3 → Bool} {vw : Vw} {rows : List (List Int)} {st : List T3} (W : Wf vw rows) (h0 : ∀ t ∈ st, t ∈ univ vw rows.length) {t : T3} : t ∈ cloL le vw rows st ↔ Rch (eps vw rows) st t := by
  unfold cloL
  rw [(List.mergeSort_perm _ le).mem_iff, List.mem_filter]
  constructor
  · exact fun h => of_decide_eq_true h.2
  · exact fun h => ⟨mem_dd.mpr (h.sub h0 fun t ht => eps_ok W ht), decide_eq_true h⟩
open Classical in
theorem cloL_eq {le : T3 → T3 → Bool} (L : LeOk le) {vw : Vw} {rows : List (List Int)} {st o : List T3} (W : Wf vw rows) (h0 : ∀ t ∈ st, t ∈ univ vw rows.length) (nd : o.Nodup) (h : ∀ t, t ∈ o ↔ Rch (eps vw rows) st t) : o.mergeSort le = cloL le vw rows st := by
  unfold cloL
  refine sort_same L nd ?_ fun t => ?_
  · exact List.Nodup.sublist List.filter_sublist (addAll_nodup _ _ List.nodup_nil)
  · rw [h t, List.mem_filter]
    exact ⟨fun h => ⟨mem_dd.mpr (h.sub h0 fun t ht => eps_ok W ht), decide_eq_true h⟩, fun h => of_decide_eq_true h.2⟩
end K81M
end
section
set_option Elab.async false
set_option maxRecDepth 100000
set_option maxHeartbeats 4000000
set_option linter.all false
set_option pp.maxSteps 1500
set_option pp.deepTerms false
/-! want_views -/
namespace K81
open PySem PySem.Spec PyProof.Rows L2 K81M NdefX LamX
abbrev View : Type := List (List Nat) × List Nat
def VwsT (K : PySem.W.Frag) (H : Hp) (a : Addr) (m : Nat) (vs : List View) : Prop := ∃ as : List Addr, SqT K H a (as.map V.ref) ∧ Paired (fun b (v : View) => Mach K H b m v.1 v.2) as vs
def Vws (K : PySem.W.Frag) (H : Hp) (a : Addr) (m : Nat) (vs : List View) : Prop := ∃ as : List Addr, Sq K H a (as.map V.ref) ∧ Paired (fun b (v : View) => Mach K H b m v.1 v.2) as vs
section
variable {P : Program} {w : World} {K : PySem.W.Frag} {mg : Str → Option Value} {base : Heap} {H H' : Hp} {a : Addr} {m : Nat} {vs : List View}
theorem VwsT.any (h : VwsT K H a m vs) : Vws K H a m vs := let ⟨as, h1, h2⟩ := h; ⟨as, .inr h1, h2⟩
theorem Vws.mono (h : Vws K H a m vs) (e : Same H H') : Vws K H' a m vs := let ⟨as, h1, h2⟩ := h; ⟨as, h1.mono e, Paired.mono h2 fun _ _ q => q.mono e⟩
theorem VwsT.mono (h : VwsT K H a m vs) (e : Same H H') : VwsT K H' a m vs := let ⟨as, h1, h2⟩ := h; ⟨as, SqT.stood h1 (fun o q => e _ _ q), Paired.mono h2 fun _ _ q => q.mono e⟩
theorem VwsT.extN (h : VwsT K H a m vs) (e : ExtN H H') : VwsT K H' a m vs := let ⟨as, h1, h2⟩ := h; ⟨as, ExtN.sqT e h1, Paired.mono h2 fun _ _ q => ExtN.mach e q⟩
theorem Vws.extN (h : Vws K H a m vs) (e : ExtN H H') : Vws K H' a m vs := let ⟨as, h1, h2⟩ := h; ⟨as, ExtN.sq e h1, Paired.mono h2 fun _ _ q => ExtN.mach e q⟩
def spWantViews (K : PySem.W.Frag) : Sp := fun vs H Q _ => ∃ (a : Addr) (m : Nat) (vw : List View), vs = [.ref a] ∧ Vws K H a m vw ∧ 1 ≤ vw.length ∧ vw.length ≤ 3 ∧ ∀ H' p, Same H H' → VwsT K H' p m vw → Q (.ref p) H'
abbrev nmWV : List Str := ["value", "view"]
theorem scWV : FnScope nmWV ["value"] (defScope sWantViews) := ⟨rfl, rfl, rfl, by decide +kernel, rfl, by decide +kernel, by decide +kernel⟩
theorem c_want_views (T : Txt K mg) : Cal P w K mg base 2 "want_views" ["value"] (spWantViews K) := by
  refine cal sWantViews T 24 22 rfl rfl scWV (fun _ _ _ _ _ _ us hl => match us, hl with | [_], _ => rfl) (fun vs H Q E h => ?_) (fun cdv A outer s H vs Q E hr h => ?_)
  · obtain ⟨a, m, vw, rfl, _⟩ := h
    rfl
  · obtain ⟨a, m, vw, rfl, hV, h1, h3, k⟩ := h
    have nd := scWV.nd
    refine ⟨_, pss_cons (ps_if (PW.pt (pw_or (pt_not (pt_val (pe_c (c_is_list T) hr (by decide) (pa_cons (pv 0) pa_nil)))) (pw_or1 (pt_not (pt_chain op_le op_le pe_int (pe_callB call_len_seq (by rfl) (T.f 0 rfl) boot_len (pa_cons (pv 0) pa_nil)) (pe_gint T.iV)))))) (pss_one ps_never) pss_nil)
      (pss_cons (ps_if (pt_not (pt_val (pe_callB (cr_all rfl) (by rfl) (T.f 9 rfl) boot_all (pa_cons (pe_lc (own := [("view", 1)]) (g := gName 1) (tt := tYes) rfl nd (pi_sq (pv 0)) (blkOk_by (N := nmWV) (sc := defScope sWantViews) (by decide +kernel)) (fun _ _ _ _ _ => pg_name (i := 1) nd rfl (Or.inl rfl)) (fun _ _ _ _ _ => pts_nil)
          (fun _ _ _ _ _ => pe_callB (C8.call_isC T.ins) (by rfl) (T.f 7 rfl) boot_isinstance (pa_cons (pv 1) (pa_cons (pe_gcls (K := K) T.gM) pa_nil)))) pa_nil)))) (pss_one ps_never) pss_nil)
      (pss_cons (ps_if (pt_val (pe_callB (cr_any rfl) (by rfl) (T.f 10 rfl) boot_any (pa_cons (pe_lc (own := [("view", 1)]) (g := gName 1) (tt := tYes) rfl nd (pi_sq (pv 0)) (blkOk_by (N := nmWV) (sc := defScope sWantViews) (by decide +kernel)) (fun _ _ _ _ _ => pg_name (i := 1) nd rfl (Or.inl rfl)) (fun _ _ _ _ _ => pts_nil)
          (fun _ _ _ _ _ => pe_cmpR op_ne (pe_fldk (K := K) rfl (pv 1) rfl) (pe_fldk (K := K) rfl (pe_ix (ix_sqk (K := K) rfl) (pv 0) pe_int (fun _ _ => rfl)) rfl) (nomark _))) pa_nil))) (pss_one ps_never) pss_nil)
      (pss_one (ps_ret (pe_callTy call_tuple_of (by rfl) (T.f 8 rfl) boot_tuple (pa_cons (pv 0) pa_nil)))))), ?_⟩
    obtain ⟨as, hA, hP⟩ := id hV
    have lenA : as.length = vw.length := Paired.len hP
    refine ⟨_, rfl, a, _, rfl, hA, fun H1 s1 => ⟨true, rfl, iteF ?_⟩⟩
    have lenR : (as.map V.ref).length = vw.length := by rw [List.length_map, lenA]
    refine ⟨_, rfl, a, _, rfl, hA.mono s1, _, _, rfl, rfl, true, vbT (by rw [lenR]; omega), ?_⟩
    refine iteT ⟨_, _, rfl, rfl, true, vbT (by rw [lenR]; omega), ?_⟩
    refine iteF ?_
    -- all of them machines
    refine ⟨_, rfl, a, _, H1, rfl, hA.mono s1, fun o e => e, fun J wJ D hD => ?_⟩
    refine lc_it wJ (fun i H4 => ∃ acc, LcP H1 D (fun i acc Hh => acc = (List.replicate i true).map V.bl) i H4 acc) (lcP_start hD fun _ _ => rfl) (fun i H4 _ ⟨acc, p⟩ => fun o e => p.all _ _ e) ?_ ?_
    · rintro i x _ H4 hi ⟨acc, p⟩ ⟨rfl, hx⟩
      obtain ⟨ai, hai, rfl⟩ := map_ref_get hx
      obtain ⟨v, hv, hM⟩ := Paired.get hP hai
      rw [lenR] at hi
      obtain ⟨dx, tt, te, hm1, _⟩ := (hM.mono s1).mono p.all
      refine ⟨rfl, yesT ⟨_, rfl, ai, dx, _, rfl, hm1, ?_⟩⟩
      refine lcP_put p hi (by rw [sizeLine_eq]; omega) (Same.refl _) ?_
      rw [p.is, List.replicate_succ', List.map_append] <;> rfl
    rintro H4 ⟨acc, p⟩
    have s4 := s1.trans p.all
    have eA : ∀ n, (List.replicate n true).all id = true := fun n => by simp
    refine ⟨D, List.replicate vw.length true, rfl, SqL.of (by rw [p.at_, p.is, lenR]), true, congrArg V.bl (by simp), iteF ?_⟩
    -- none with other letters
    refine ⟨_, rfl, a, _, H4, rfl, hA.mono s4, fun o e => e, fun J wJ D2 hD2 => ?_⟩
    refine lc_it wJ (fun i H5 => ∃ acc, LcP H4 D2 (fun i acc Hh => acc = (List.replicate i false).map V.bl) i H5 acc) (lcP_start hD2 fun _ _ => rfl) (fun i H5 _ ⟨acc, p⟩ => fun o e => p.all _ _ e) ?_ ?_
    · rintro i x _ H5 hi ⟨acc, p2⟩ ⟨rfl, hx⟩
      obtain ⟨ai, hai, rfl⟩ := map_ref_get hx
      obtain ⟨v, hv, hM⟩ := Paired.get hP hai
      rw [lenR] at hi
      obtain ⟨dx, tt, te, hm1, _⟩ := (hM.mono s4).mono p2.all
      obtain ⟨v0, hv0⟩ : ∃ v0, vw[0]? = some v0 := ⟨_, List.getElem?_eq_getElem (by omega)⟩
      obtain ⟨b0, hb0, hM0⟩ := Paired.get' hP hv0
      obtain ⟨dx0, tt0, te0, hm0, _⟩ := (hM0.mono s4).mono p2.all
      refine ⟨rfl, yesT ⟨_, rfl, ai, mC K, dx, _, _, rfl, hm1, T.cl, T.nL, rfl, _, rfl, a, _, _, _, rfl, rfl, (hA.mono s4).mono p2.all, atI_nat (refs_at hb0), b0, mC K, dx0, _, _, rfl, hm0, T.cl, T.nL, rfl, rfl, ?_⟩⟩
      have ec : (!decide (V.int (m : Int) = V.int (m : Int))) = false := by simp
      rw [ec]
      refine lcP_put p2 hi (by rw [sizeLine_eq]; omega) (Same.refl _) ?_
      rw [p2.is, List.replicate_succ', List.map_append] <;> rfl
    rintro H5 ⟨acc, p2⟩
    have s5 := s4.trans p2.all
    refine ⟨D2, List.replicate vw.length false, rfl, SqL.of (by rw [p2.at_, p2.is, lenR]), false, congrArg V.bl (by simp), iteF ?_⟩
    have f5 : ∀ {H6}, Same H5 H6 → Paired (fun b (v : View) => Mach K H6 b m v.1 v.2) as vw := fun e => Paired.mono hP fun _ _ q => (q.mono s5).mono e
    refine ⟨_, rfl, a, as.map V.ref, rfl, ?_⟩
    rcases hA.mono s5 with hA5 | hA5
    · exact .inl ⟨hA5, fun l hl => k _ l (Same.up s5 hl) ⟨as, SqT.of upd_same, f5 (same_new hl)⟩⟩
    · exact .inr ⟨hA5, k _ a s5 ⟨as, hA5, f5 (Same.refl _)⟩⟩
end
end K81
end
section
set_option Elab.async false
set_option maxRecDepth 100000
set_option maxHeartbeats 4000000
set_option linter.all false
set_option pp.maxSteps 1500
set_option pp.deepTerms false
/-! let_on -/
namespace K81
open PySem PySem.Spec PyProof.Rows L2 K81M NdefX LamX
def Trip (H : Hp) (b : Addr) (t : List Int) : Prop := H b = some (.tup (t.map V.int))
abbrev leT : List Int → List Int → Bool := PySem.W.dataLe false encT
theorem leT_eq (a b : List Int) : leT a b = !decide (b < a) := by
  have e : leT a b = !PySem.W.dataLt (encT b) (encT a) := rfl
  rw [e]
  unfold encT
  rw [PySem.W.dataLt_tuple]
  have e2 := PySem.W.dataLt_ints b a
  unfold PySem.W.rowLt at e2
  rw [e2]
theorem leT_iff (a b : List Int) : leT a b = true ↔ a ≤ b := by
  rw [leT_eq]
  by_cases h : b < a
  · rw [decide_eq_true h]
    exact ⟨(fun z => nomatch z), fun z => absurd h (List.not_lt.mpr z)⟩
  · rw [decide_eq_false h]
    exact ⟨fun _ => List.not_lt.mp h, fun _ => rfl⟩
theorem paired_and {A B : Type} {F : A → B → Prop} {G : B → Prop} : ∀ {l1 : List A} {l2 : List B}, Paired F l1 l2 → (∀ x ∈ l2, G x) → Paired (fun a b => F a b ∧ G b) l1 l2
  | _, _, .nil, _ => .nil
  | _, _, .cons h t, g => .cons ⟨h, g _ List.mem_cons_self⟩ (paired_and t fun x hx => g x (List.mem_cons_of_mem _ hx))
theorem leT_ok : LeOk leT where
  trans := fun a b c h1 h2 => (leT_iff _ _).mpr (List.le_trans ((leT_iff _ _).mp h1) ((leT_iff _ _).mp h2))
  total := fun a b => by
    rw [Bool.or_eq_true, leT_iff, leT_iff]
    exact List.le_total a b
  anti := fun a b h1 h2 => List.le_antisymm ((leT_iff _ _).mp h1) ((leT_iff _ _).mp h2)
def kT (t : List Int) : List Key := t.map Sum.inl
theorem kT_inj {t u : List Int} (h : kT t = kT u) : t = u := by
  unfold kT at h
  exact (List.map_inj_right (fun a b e => Sum.inl.inj e)).mp h
theorem kT_V (t : List Int) : (kT t).map kV = t.map V.int := by
  unfold kT
  rw [List.map_map] <;> rfl
theorem Trip.key {H : Hp} {b : Addr} {t : List Int} (h : Trip H b t) : H b = some (.tup ((kT t).map kV)) := by rw [kT_V]; exact h
def kvsO (o : List (List Int)) : List (List Key × V) := o.map fun t => (kT t, V.bl true)
theorem kvsO_val : ∀ {o : List (List Int)} {t : List Int}, valV (kvsO o) (kT t) = if t ∈ o then some (V.bl true) else none
  | [], t => by simp [kvsO, valV_nil]
  | x :: o, t => by
    show valV ((kT x, V.bl true) :: kvsO o) (kT t) = _
    by_cases h : x = t
    · subst h
      rw [valV_pos rfl, if_pos List.mem_cons_self]
    · rw [valV_neg (fun z => h (kT_inj z)), kvsO_val]
      by_cases d : t ∈ o
      · rw [if_pos d, if_pos (List.mem_cons_of_mem _ d)]
      · rw [if_neg d, if_neg fun z => (List.mem_cons.mp z).elim (fun z => h z.symm) d]
theorem kvsO_put {o : List (List Int)} {t : List Int} : putK (kvsO o) (kT t) (V.bl true) = kvsO (if t ∈ o then o else o ++ [t]) := by
  by_cases d : t ∈ o
  · rw [if_pos d]
    unfold putK
    rw [valV_any, kvsO_val, if_pos d]
    show (if true = true then _ else _) = _
    rw [if_pos rfl]
    unfold kvsO
    rw [List.map_map]
    refine List.map_congr_left fun x _ => ?_
    show (if kT x = kT t then (kT x, V.bl true) else (kT x, V.bl true)) = _
    split <;> rfl
  · rw [if_neg d, putK_new _ (by rw [kvsO_val, if_neg d])]
    unfold kvsO
    rw [List.map_append] <;> rfl
theorem kvsO_keys {H : Hp} : ∀ {o : List (List Int)} {bs : List Addr}, IsKeys H (kvsO o) bs → Paired (Trip H) bs o
  | [], _, h => by cases h; exact .nil
  | x :: o, _, h => by
    cases h with
    | cons h1 t => exact .cons (by unfold Trip; rw [← kT_V]; exact h1) (kvsO_keys t)
theorem dp_trips {K : PySem.W.Frag} {H : Hp} : ∀ {as : List Addr} {rows : List (List Int)}, Paired (Trip H) as rows → DpAll K H (as.map V.ref) (rows.map encT)
  | _, _, .nil => .nil
  | _, _, .cons h t => .cons (.tup (SqT.of h) (dp_ints _)) (dp_trips t)
theorem sh_trips (rows : List (List Int)) : SeqAt.shaped (.list (rows.map encT)) = true := by
  obtain ⟨h1, h2⟩ := lay_rows rows
  unfold SeqAt.shaped
  have e : rows.map encT = rows.map fun r => PyData.tuple (r.map PyData.int) := rfl
  rw [e]
  simp only [PyData.canLay0, PyData.depth, h1, Bool.true_and]
  exact decide_eq_true (by omega)
theorem sh_nil : SeqAt.shaped (.list []) = true := by decide +kernel
theorem ne_nil_trips (wt : List (List Int)) : (!PyData.eqv (.list (wt.map encT)) (.list [])) = decide (wt ≠ []) := by
  cases wt with
  | nil => rfl
  | cons t wt => rfl
theorem paired_dropLast {A B : Type} {F : A → B → Prop} : ∀ {l1 : List A} {l2 : List B}, Paired F l1 l2 → Paired F l1.dropLast l2.dropLast
  | _, _, .nil => .nil
  | _, _, .cons _ .nil => .nil
  | _, _, .cons h (.cons h2 t) => .cons h (paired_dropLast (.cons h2 t))
/-- the loop's objects -/
structure LO (H0 H : Hp) (fp wp : Addr) (o : List (List Int)) (as : List Addr) (wt : List (List Int)) : Prop where
  same : Same H0 H
  f : H fp = some (.dT (kvsO o))
  w : H wp = some (.lst (as.map V.ref))
  pw : Paired (Trip H) as wt
theorem Trip.mono {H H' : Hp} {b : Addr} {t : List Int} (h : Trip H b t) (e : Same H H') : Trip H' b t := e _ _ h
theorem Trip.up {H : Hp} {b p : Addr} {t : List Int} {o0 o : HO} (h : Trip H b t) (hp : H p = some o0) (n : ∀ xs, o0 ≠ .tup xs) : Trip (upd H p o) b t := by
  unfold Trip
  rw [upd_ne (fun z => by rw [z] at h; exact n _ (Option.some.inj (hp.symm.trans h)))]
  exact h
section
variable {H0 H H' : Hp} {fp wp : Addr} {o : List (List Int)} {as : List Addr} {wt : List (List Int)}
theorem LO.mono (l : LO H0 H fp wp o as wt) (e : Same H H') : LO H0 H' fp wp o as wt := ⟨l.same.trans e, e _ _ l.f, e _ _ l.w, Paired.mono l.pw fun _ _ q => q.mono e⟩
theorem LO.put (l : LO H0 H fp wp o as wt) (h0 : H0 fp = none) (o' : List (List Int)) : LO H0 (upd H fp (.dT (kvsO o'))) fp wp o' as wt :=
  ⟨same_mut l.same h0, upd_same, by rw [upd_ne (ne_of l.w l.f (fun z => nomatch z))]; exact l.w, Paired.mono l.pw fun _ _ q => q.up l.f fun _ z => nomatch z⟩
theorem LO.wset (l : LO H0 H fp wp o as wt) (h0 : H0 wp = none) {as' : List Addr} {wt' : List (List Int)} (h : Paired (Trip H) as' wt') : LO H0 (upd H wp (.lst (as'.map V.ref))) fp wp o as' wt' :=
  ⟨same_mut l.same h0, by rw [upd_ne (ne_of l.f l.w (fun z => nomatch z))]; exact l.f, upd_same, Paired.mono h fun _ _ q => q.up l.w fun _ z => nomatch z⟩
end
/-- what is known of found and waiting -/
structure Cls (e : List Int → List (List Int)) (st o wt : List (List Int)) (ex : List Int → Prop) : Prop where
  nd : o.Nodup
  sub : ∀ t ∈ o, Rch e st t
  base : ∀ t ∈ st, t ∈ o
  wo : ∀ t ∈ wt, t ∈ o
  done : ∀ t ∈ o, t ∈ wt ∨ ex t ∨ ∀ y ∈ e t, y ∈ o
def muLO (N : Nat) (fp wp : Addr) (H : Hp) : Nat := match H fp, H wp with
  | some (.dT k), some (.lst l) => 2 * (N - k.length) + l.length
  | _, _ => 0
theorem muLO_at {H0 H : Hp} {fp wp : Addr} {o : List (List Int)} {as : List Addr} {wt : List (List Int)} (l : LO H0 H fp wp o as wt) (N : Nat) : muLO N fp wp H = 2 * (N - o.length) + wt.length := by
  unfold muLO
  rw [l.f, l.w]
  show 2 * (N - (kvsO o).length) + (as.map V.ref).length = _
  rw [List.length_map, Paired.len l.pw]
  unfold kvsO
  rw [List.length_map]
section
variable {P : Program} {w : World} {K : PySem.W.Frag} {mg : Str → Option Value} {base : Heap} {H H' : Hp} {a : Addr} {m : Nat}
noncomputable def spLetOn (K : PySem.W.Frag) : Sp := fun vs H Q _ => ∃ (va sa la : Addr) (m : Nat) (vw : List View) (rows : List (List Int)) (as : List Addr) (st : List (List Int)), vs = [.ref va, .ref sa, .ref la] ∧ VwsT K H va m vw ∧ Rows K H sa rows ∧ Wf vw rows ∧
  H la = some (.lst (as.map V.ref)) ∧ Paired (Trip H) as st ∧ (∀ t ∈ st, t ∈ univ vw rows.length) ∧ (univ vw rows.length).length ≤ 100000 ∧ vw.length ≤ 3 ∧ st.length ≤ 100000 ∧
  ∀ H' p, Same H H' → TT H' p (cloL leT vw rows st) → Q (.ref p) H'
abbrev nmLO : List Str := ["views", "steps", "standings", "found", "waiting", "one", "state", "view", "spot", "later", "sign", "there"]
theorem scLO : FnScope nmLO ["views", "steps", "standings"] (defScope sLetOn) := ⟨rfl, rfl, rfl, by decide +kernel, rfl, by decide +kernel, by decide +kernel⟩
theorem c_let_on (T : Txt K mg) : Cal P w K mg base 2 "let_on" ["views", "steps", "standings"] (spLetOn K) := by
  refine cal sLetOn T 25 23 rfl rfl scLO (fun _ _ _ _ _ _ us hl => match us, hl with | [_, _, _], _ => rfl) (fun vs H Q E h => ?_) (fun cdv A outer s H vs Q E hr h => ?_)
  · obtain ⟨va, sa, la, m, vw, rows, as, st, rfl, _⟩ := h
    rfl
  · obtain ⟨va, sa, la, m, vw, rows, as, st, rfl, hV, hR, hW, hL, hP, hU, few, fewV, fewS, k⟩ := h
    have nd := scLO.nd
    have hu := hu_of hr
    have hu2 := hr.units
    refine ⟨_, pss_cons (ps_par (i := 3) (j := 4) rfl nd rfl rfl (by decide) rfl rfl (pa_cons pe_dnewT (pa_cons (pe_callTy call_list_of (by rfl) (T.f 3 rfl) boot_list (pa_cons (pv 2) pa_nil)) pa_nil)) (by rfl))
      (pss_cons (ps_for PassesOwn.never rfl (pi_list (pv 2)) (pg_name (i := 5) nd rfl (Or.inl rfl)) (pss_one (ps_dput hu (pv 3) (pv 5) pe_bl rfl)))
      (pss_cons (ps_while PassesOwn.never (pt_cmpR (op_neD hu2) (pv 4) (pe_lst pa_nil) (nomark _))
        (pss_cons (ps_asg (pe_bm0 PySem.F.plainAttrs_list PySem.F.slot_list_pop PySem.F.type_list_pop mt_pop (pv 4)) (pg_tup rfl (pgs_cons (pg_name (i := 6) nd rfl (Or.inl rfl)) (pgs_cons (pg_name (i := 7) nd rfl (Or.inl rfl)) (pgs_cons (pg_name (i := 8) nd rfl (Or.inl rfl)) pgs_nil)))))
        (pss_cons (ps_set (i := 9) nd rfl (Or.inl rfl) (pe_lst pa_nil))
        (C8.pss_cut (ps_if (pt_cmpR op_lt (pv 7) pe_int (nomark _))
          (pss_one (ps_setLc (i := 9) (own := [("sign", 10), ("there", 11)]) rfl nd rfl rfl rfl (pi_enSq (K := K) rfl (by rfl) (T.f 11 rfl) (pa_cons (pe_ix ix_sq (pv 1) (pv 6) (fun _ _ => rfl)) pa_nil)) (blkOk_by (N := nmLO) (sc := defScope sLetOn) (by decide +kernel))
            (fun _ _ _ _ _ => pg_tupk (K := K) (n := 2) rfl rfl (pgs_cons (pg_name (i := 10) nd rfl (Or.inl rfl)) (pgs_cons (pg_name (i := 11) nd rfl (Or.inl rfl)) pgs_nil))) (fun _ _ _ _ _ => pts_one (pt_cmpR op_ge (pv 11) pe_int (nomark _)))
            (fun _ _ _ _ _ => pe_tup (pa_cons (pv 11) (pa_cons (pv 10) (pa_cons pe_int pa_nil))))))
          (pss_one (ps_if (pt_val (pe_c (c_is_end T) hr (by decide) (pa_cons (pe_ix ix_sq (pv 0) (pv 7) (fun _ _ => rfl)) (pa_cons (pv 8) pa_nil))))
            (pss_one (ps_set (i := 9) nd rfl (Or.inl rfl) (pe_lst (pa_cons (pe_tup (pa_cons (pv 6) (pa_cons (pe_un un_neg pe_int) (pa_cons pe_int pa_nil)))) pa_nil)))) pss_nil)))
        (pss_one (ps_for PassesOwn.never rfl (pi_list (pv 9)) (pg_name (i := 5) nd rfl (Or.inl rfl))
          (pss_one (ps_if (pt_cmp (pc_dnotin hu (pv 5) (pv 3)) (by rfl))
            (pss_cons (ps_dput hu (pv 3) (pv 5) pe_bl rfl) (pss_one (ps_expr (pe_bm PySem.F.plainAttrs_list PySem.F.slot_list_append PySem.F.type_list_append mt_append (pv 4) (pa_cons (pv 5) pa_nil))))) pss_nil))))))))
      (pss_one (ps_ret (pe_callTy call_tuple_of (by rfl) (T.f 8 rfl) boot_tuple (pa_cons (pe_callB (cr_sortedTs hu2) (by rfl) (T.f 1 rfl) boot_sorted (pa_cons (pe_callTy (call_list_dT rfl) (by rfl) (T.f 3 rfl) boot_list (pa_cons (pv 3) pa_nil)) pa_nil)) pa_nil)))))), ?_⟩
    -- found, waiting = ({}, list(standings))
    intro fp hfp
    have s1 : Same H (upd H fp (.dT [])) := same_new hfp
    refine ⟨_, rfl, la, _, rfl, .inl (SqL.of (s1 _ _ hL)), fun wp hwp => ⟨_, _, rfl, ?_⟩⟩
    have hwpH : H wp = none := Same.none s1 hwp
    have L0 : LO H (upd (upd H fp (.dT [])) wp (.lst (as.map V.ref))) fp wp [] as st :=
      ⟨Same.up s1 hwp, by rw [upd_ne (ne_of_none upd_same hwp)]; exact upd_same, upd_same, Paired.mono hP fun _ _ q => (q.mono s1).mono (same_new hwp)⟩
    generalize upd (upd H fp (.dT [])) wp (.lst (as.map V.ref)) = H1 at L0 ⊢
    have lenS : as.length = st.length := Paired.len hP
    -- for one in standings: found[one] = True
    refine ⟨_, rfl, la, rfl, ⟨_, SqL.of (L0.same _ _ hL)⟩, ?_⟩
    refine for_list (xs := as.map V.ref) (fun i σ' H2 => ∃ v5, σ' = [some (.ref va), some (.ref sa), some (.ref la), some (.ref fp), some (.ref wp), v5, none, none, none, none, none, none] ∧ LO H H2 fp wp (addAll [] (st.take i)) as st)
      ⟨none, rfl, L0⟩ (fun i σ' H2 _ ⟨_, _, L⟩ => SqL.of (L.same _ _ hL)) ?_ ?_
    · rintro i x σ' H2 hx ⟨v5, rfl, L⟩
      obtain ⟨b, hb, rfl⟩ := map_ref_get hx
      obtain ⟨t, ht, hT⟩ := Paired.get hP hb
      have lo : (addAll [] (st.take i)).length ≤ (univ vw rows.length).length := nodup_le (addAll_nodup _ _ List.nodup_nil) fun x hx => hU _ (List.mem_of_mem_take (mem_dd.mp hx))
      refine ⟨_, rfl, _, rfl, fp, _, rfl, .t L.f (hT.mono L.same).key ?_, _, rfl, ?_⟩
      · unfold kvsO
        rw [List.length_map, sizeLine_eq]
        omega
      · have ea : addAll [] (st.take (i + 1)) = if t ∈ addAll [] (st.take i) then addAll [] (st.take i) else addAll [] (st.take i) ++ [t] := by
          rw [List.take_add_one, ht, addAll_append]
          show addAll _ [t] = _
          rw [addAll_cons]
          by_cases d : t ∈ addAll [] (st.take i)
          · rw [if_pos d, if_pos d] <;> rfl
          · rw [if_neg d, if_neg d] <;> rfl
        rw [kvsO_put, ea]
        exact L.put hfp _
    rintro σ' H2 ⟨v5, rfl, L2⟩
    rw [List.length_map, lenS, List.take_length] at L2
    have C2 : Cls (eps vw rows) st (addAll [] st) st fun _ => False := ⟨addAll_nodup _ _ List.nodup_nil, fun t ht => .base (mem_dd.mp ht), fun t ht => mem_dd.mpr ht, fun t ht => mem_dd.mpr ht, fun t ht => .inl (mem_dd.mp ht)⟩
    have inU : ∀ {o : List (List Int)}, (∀ t ∈ o, Rch (eps vw rows) st t) → ∀ t ∈ o, t ∈ univ vw rows.length := fun h t ht => (h t ht).sub hU fun t ht => eps_ok hW ht
    refine while_my (fun σ H' => ∃ o as wt v5 v6 v7 v8 v9 v10 v11, σ = [some (.ref va), some (.ref sa), some (.ref la), some (.ref fp), some (.ref wp), v5, v6, v7, v8, v9, v10, v11] ∧ LO H H' fp wp o as wt ∧ Cls (eps vw rows) st o wt (fun _ => False) ∧ 2 * ((univ vw rows.length).length - o.length) + wt.length ≤ 2 * (univ vw rows.length).length + st.length)
      (fun _ H' => muLO (univ vw rows.length).length fp wp H') ⟨_, _, _, _, _, _, _, _, _, _, rfl, L2, C2, by omega⟩ ?_
    rintro σ H3 ⟨o, as, wt, v5, v6, v7, v8, v9, v10, v11, rfl, L, C, hwb⟩
    refine ⟨_, rfl, by show 0 ≤ sizeLine; decide, fun np hnp => ?_⟩
    have L3 := L.mono (same_new (o := .lst []) hnp)
    refine ⟨_, _, .lst (SqL.of L3.w) (dp_trips L3.pw), .lst (SqL.of upd_same) .nil, sh_trips _, sh_nil, _, rfl, ?_⟩
    rw [ne_nil_trips]
    generalize upd H3 np (.lst []) = H4 at L3 ⊢
    have hmu := muLO_at L (univ vw rows.length).length
    refine ite2 (fun c => ?_) (fun c => ?_)
    · have hne : wt ≠ [] := of_decide_eq_true c
      obtain ⟨ws, t, rfl⟩ : ∃ ws t, wt = ws ++ [t] := ⟨_, _, (List.dropLast_concat_getLast hne).symm⟩
      have lenW : as.length = ws.length + 1 := by rw [Paired.len L3.pw, List.length_append] <;> rfl
      have ht : (ws ++ [t])[ws.length]? = some t := by simp
      obtain ⟨b, hb, hT⟩ := Paired.get' L3.pw ht
      have hto : t ∈ o := C.wo _ (List.mem_of_getElem? ht)
      have htU := inU C.sub _ hto
      refine ⟨_, turn_my, ?_⟩
      refine ⟨_, rfl, .inl ⟨rfl, _, SqL.of L3.w⟩, wp, as.map V.ref, .ref b, rfl, rfl, L3.w, by rw [List.length_map, lenW]; exact refs_at hb, ?_⟩
      have L5 : LO H (upd H4 wp (.lst (as.dropLast.map V.ref))) fp wp o as.dropLast ws := L3.wset hwpH (by have := paired_dropLast L3.pw; rwa [List.dropLast_concat] at this)
      rw [show (as.map V.ref).dropLast = as.dropLast.map V.ref from (List.map_dropLast).symm]
      have hT5 : Trip (upd H4 wp (.lst (as.dropLast.map V.ref))) b t := hT.up L3.w fun _ z => nomatch z
      generalize upd H4 wp (.lst (as.dropLast.map V.ref)) = H5 at L5 hT5 ⊢
      generalize as.dropLast = as at L5 ⊢
      have C5 : Cls (eps vw rows) st o ws (· = t) := ⟨C.nd, C.sub, C.base, fun x hx => C.wo x (List.mem_append_left _ hx), fun x hx => by
        rcases C.done x hx with z | z | z
        · rcases List.mem_append.mp z with z | z
          · exact .inl z
          · exact .inr (.inl (List.mem_singleton.mp z))
        · exact z.elim
        · exact .inr (.inr z)⟩
      have hmu5 : 2 * ((univ vw rows.length).length - o.length) + ws.length < muLO (univ vw rows.length).length fp wp H3 := by
        rw [hmu, List.length_append, List.length_singleton]
        omega
      generalize muLO (univ vw rows.length).length fp wp H3 = mu at hmu5 ⊢
      obtain ⟨a1, a2, a3, rfl⟩ : ∃ a1 a2 a3, t = [a1, a2, a3] := by
        obtain ⟨q, _, h | ⟨v, s, _, _, h⟩⟩ := mem_univ.mp htU
        · exact ⟨_, _, _, h⟩
        · exact ⟨_, _, _, h⟩
      refine ⟨b, _, rfl, SqT.of hT5, rfl, _, _, rfl, _, _, rfl, _, _, rfl, rfl, by show 0 ≤ sizeLine; decide, fun lp hlp => ?_⟩
      have L6 := L5.mono (same_new (o := .lst []) hlp)
      have hl6 : (upd H5 lp (.lst [])) lp = some (.lst []) := upd_same
      have nlw : lp ≠ wp := (ne_of_none L5.w hlp).symm
      generalize upd H5 lp (.lst []) = H6 at L6 hl6 ⊢
      refine ⟨fun σ' H' => ∃ lp bs v10 v11, σ' = [some (.ref va), some (.ref sa), some (.ref la), some (.ref fp), some (.ref wp), v5, some (.int a1), some (.int a2), some (.int a3), some (.ref lp), v10, v11] ∧ LO H H' fp wp o as ws ∧ lp ≠ wp ∧ H' lp = some (.lst (bs.map V.ref)) ∧ Paired (Trip H') bs (eps vw rows [a1, a2, a3]), ?_, ?_⟩
      · refine ⟨_, rfl, _, _, rfl, rfl, _, rfl, ?_⟩
        refine ite2 (fun d => ?_) (fun d => ?_)
        · have d := of_decide_eq_true d
          obtain ⟨q, hq, e⟩ : ∃ q : Nat, q < rows.length ∧ [a1, a2, a3] = [(q : Int), -1, 0] := by
            obtain ⟨q, hq, h | ⟨v, s, _, _, h⟩⟩ := mem_univ.mp htU
            · exact ⟨q, hq, h⟩
            · injection h with h1 h2
              injection h2 with h2 h3
              omega
          injection e with e1 e2
          injection e2 with e2 e3
          injection e3 with e3 _
          subst e1 e2 e3
          rw [eps_neg]
          obtain ⟨r, hr⟩ : ∃ r, rows[q]? = some r := ⟨_, List.getElem?_eq_getElem hq⟩
          have er : rows.getD q [] = r := by rw [List.getD_eq_getElem?_getD, hr] <;> rfl
          rw [er]
          have rlen : r.length = vw.length := hW.row _ (List.mem_of_getElem? hr)
          obtain ⟨ra, hra, hrr⟩ := id hR
          obtain ⟨rb, hrb, hrs⟩ := Paired.get' hrr hr
          refine ⟨_, rfl, _, rfl, sa, _, _, _, rfl, rfl, hra.mono L6.same, atI_nat (refs_at hrb), rb, _, H6, rfl, hrs.mono L6.same, fun o e => e, fun J wJ D hD => ?_⟩
          refine lc_it wJ (fun i H7 => ∃ acc, LcP H6 D (fun i acc Hh => ∃ bs : List Addr, acc = bs.map V.ref ∧ Paired (Trip Hh) bs (epsTo r i)) i H7 acc) (lcP_start hD fun _ _ => ⟨[], rfl, .nil⟩) (fun i H7 _ ⟨acc, p⟩ => fun o e => p.all _ _ e) ?_ ?_
          · rintro i x H7 _ hi ⟨acc, p⟩ ⟨T1, x1, rfl, hT1, rfl, hx1⟩
            obtain ⟨z, hz, rfl⟩ := map_int_get hx1
            rw [List.length_map] at hi
            have ez : r.getD i 0 = z := by rw [List.getD_eq_getElem?_getD, hz] <;> rfl
            have s7 : Same H7 (upd H7 T1 (.tup [V.int (i : Nat), V.int z])) := same_new hT1
            refine ⟨T1, _, rfl, SqT.of upd_same, rfl, _, _, rfl, _, _, rfl, rfl, rfl, ?_⟩
            refine ⟨_, rfl, _, _, rfl, rfl, _, rfl, ?_⟩
            obtain ⟨bs, rfl, hPb⟩ := p.is
            refine ite2 (fun g => ?_) (fun g => ?_)
            · have g : 0 ≤ z := of_decide_eq_true g
              refine ⟨_, rfl, _, rfl, by show 3 ≤ sizeLine; decide, fun t2 ht2 => ?_⟩
              have s8 : Same (upd H7 T1 (.tup [V.int (i : Nat), V.int z])) (upd (upd H7 T1 (.tup [V.int (i : Nat), V.int z])) t2 (.tup [V.int z, V.int (i : Nat), V.int 0])) := same_new ht2
              have nD : t2 ≠ D := fun y => by
                have := s7 _ _ p.at_
                rw [← y, ht2] at this
                cases this
              refine lcP_put p hi (by rw [rlen, sizeLine_eq]; omega) (s7.trans s8) ⟨bs ++ [t2], by rw [List.map_append] <;> rfl, ?_⟩
              rw [epsTo_succ, ez, if_pos g]
              exact Paired.snoc (Paired.mono hPb fun _ _ e => Same.hole (s7.trans s8) _ _ e) (by unfold Trip; rw [hole_ne nD]; exact upd_same)
            · have g : ¬ 0 ≤ z := fun y => g (decide_eq_true y)
              refine lcP_skip p s7 ⟨bs, rfl, ?_⟩
              rw [epsTo_succ, ez, if_neg g, List.append_nil]
              exact Paired.mono hPb fun _ _ e => Same.hole s7 _ _ e
          rintro H7 ⟨acc, p⟩
          obtain ⟨bs, rfl, hPb⟩ := p.is
          rw [List.length_map] at hPb
          refine ⟨D, bs, _, _, rfl, L6.mono p.all, (ne_of_none L6.w hD).symm, p.at_, Paired.mono hPb fun _ _ e => hole_sub _ _ e⟩
        · have d : ¬ a2 < 0 := fun z => d (decide_eq_true z)
          obtain ⟨q, v, s, hq, hv, hs, e⟩ : ∃ q v s : Nat, q < rows.length ∧ v < vw.length ∧ s < (vw.getD v ([], [])).1.length ∧ [a1, a2, a3] = [(q : Int), (v : Int), (s : Int)] := by
            obtain ⟨q, hq, h | ⟨v, s, hv, hs, h⟩⟩ := mem_univ.mp htU
            · injection h with h1 h2
              injection h2 with h2 h3
              omega
            · exact ⟨q, v, s, hq, hv, hs, h⟩
          injection e with e1 e2
          injection e2 with e2 e3
          injection e3 with e3 _
          subst e1 e2 e3
          rw [eps_pos]
          obtain ⟨vv, hvv⟩ : ∃ vv, vw[v]? = some vv := ⟨_, List.getElem?_eq_getElem hv⟩
          have ev : vw.getD v ([], []) = vv := by rw [List.getD_eq_getElem?_getD, hvv] <;> rfl
          rw [ev] at hs ⊢
          obtain ⟨ra, hra, hrr⟩ := id hV
          obtain ⟨rb, hrb, hrs⟩ := Paired.get' hrr hvv
          refine ⟨_, rfl, _, rfl, va, _, _, _, rfl, rfl, .inr (SqT.stood hra fun o e => L6.same _ _ e), atI_nat (refs_at hrb), _, rfl, rb, m, s, vv.1, vv.2, rfl, hrs.mono L6.same, _, rfl, ?_⟩
          refine ite2 (fun g => ?_) (fun g => ?_)
          · have g := of_decide_eq_true g
            rw [if_pos g]
            refine ⟨_, rfl, _, rfl, by show 3 ≤ sizeLine; decide, fun t2 ht2 => ⟨by show 1 ≤ sizeLine; decide, fun lp2 hlp2 => ?_⟩⟩
            have s7 : Same H6 (upd H6 t2 (.tup [V.int (q : Int), V.int (-1), V.int 0])) := same_new ht2
            have s8 : Same (upd H6 t2 (.tup [V.int (q : Int), V.int (-1), V.int 0])) (upd (upd H6 t2 (.tup [V.int (q : Int), V.int (-1), V.int 0])) lp2 (.lst [V.ref t2])) := same_new hlp2
            exact ⟨lp2, [t2], _, _, rfl, L6.mono (s7.trans s8), (ne_of_none (s7 _ _ L6.w) hlp2).symm, upd_same, .cons (s8 _ _ upd_same) .nil⟩
          · have g : ¬ s ∈ vv.2 := fun y => g (decide_eq_true y)
            rw [if_neg g]
            exact ⟨lp, [], _, _, rfl, L6, nlw, hl6, .nil⟩
      rintro σ' H7 ⟨lp, bs, v10, v11, rfl, L7, nlw, hl7, hP7⟩
      have lenB := Paired.len hP7
      refine ⟨_, rfl, lp, rfl, ⟨_, SqL.of hl7⟩, ?_⟩
      refine for_list (xs := bs.map V.ref) (fun i σ' H8 => ∃ o' as' wt' v5', σ' = [some (.ref va), some (.ref sa), some (.ref la), some (.ref fp), some (.ref wp), v5', some (.int a1), some (.int a2), some (.int a3), some (.ref lp), v10, v11] ∧ LO H H8 fp wp o' as' wt' ∧ H8 lp = some (.lst (bs.map V.ref)) ∧
          Paired (Trip H8) bs (eps vw rows [a1, a2, a3]) ∧ Cls (eps vw rows) st o' wt' (· = [a1, a2, a3]) ∧ (∀ y ∈ (eps vw rows [a1, a2, a3]).take i, y ∈ o') ∧ [a1, a2, a3] ∈ o' ∧ 2 * ((univ vw rows.length).length - o'.length) + wt'.length ≤ 2 * ((univ vw rows.length).length - o.length) + ws.length)
        ⟨o, as, ws, v5, rfl, L7, hl7, hP7, C5, (fun y hy => by simp at hy), hto, Nat.le_refl _⟩ (fun i σ' H8 _ ⟨_, _, _, _, _, _, h, _⟩ => SqL.of h) ?_ ?_
      · rintro i x σ' H8 hx ⟨o', as', wt', v5', rfl, L8, hl8, hP8, C8, hy8, ht8, hm8⟩
        obtain ⟨bi, hbi, rfl⟩ := map_ref_get hx
        obtain ⟨y, hy, hTy⟩ := Paired.get hP8 hbi
        have hyE := List.mem_of_getElem? hy
        have hRy : Rch (eps vw rows) st y := (C.sub _ hto).step hyE
        have len' : o'.length ≤ (univ vw rows.length).length := nodup_le C8.nd (inU C8.sub)
        have lenA' : as'.length = wt'.length := Paired.len L8.pw
        have tk : (eps vw rows [a1, a2, a3]).take (i + 1) = (eps vw rows [a1, a2, a3]).take i ++ [y] := by rw [List.take_add_one, hy] <;> rfl
        refine ⟨_, rfl, _, rfl, fp, _, rfl, .inr ⟨_, kT y, bi, .inl L8.f, rfl, hTy.key, rfl⟩, _, rfl, ?_⟩
        rw [kvsO_val]
        by_cases d : y ∈ o'
        · rw [if_pos d]
          refine iteF ⟨o', as', wt', _, rfl, L8, hl8, hP8, C8, fun z hz => ?_, ht8, hm8⟩
          rw [tk] at hz
          rcases List.mem_append.mp hz with z1 | z1
          · exact hy8 z z1
          · rw [List.mem_singleton.mp z1]; exact d
        · rw [if_neg d]
          have ndn : (o' ++ [y]).Nodup := List.nodup_append.mpr ⟨C8.nd, List.nodup_cons.mpr ⟨by simp, List.nodup_nil⟩, fun a ha b hb e => d (by have := List.mem_singleton.mp hb; rw [← this, ← e]; exact ha)⟩
          have lt2 : o'.length + 1 ≤ (univ vw rows.length).length := by
            have := nodup_le ndn (U := univ vw rows.length) fun x hx => by
              rcases List.mem_append.mp hx with z | z
              · exact inU C8.sub x z
              · rw [List.mem_singleton.mp z]; exact eps_ok hW htU y hyE
            rwa [List.length_append, List.length_singleton] at this
          refine iteT ⟨_, rfl, _, rfl, fp, _, rfl, .t L8.f hTy.key (by unfold kvsO; rw [List.length_map, sizeLine_eq]; omega), ?_⟩
          rw [kvsO_put, if_neg d]
          have L9 := L8.put hfp (o' ++ [y])
          have hl9 : (upd H8 fp (.dT (kvsO (o' ++ [y])))) lp = some (.lst (bs.map V.ref)) := by rw [upd_ne (ne_of hl8 L8.f (fun z => nomatch z))]; exact hl8
          have hP9 : Paired (Trip (upd H8 fp (.dT (kvsO (o' ++ [y]))))) bs (eps vw rows [a1, a2, a3]) := Paired.mono hP8 fun _ _ q => q.up L8.f fun _ z => nomatch z
          have hT9 : Trip (upd H8 fp (.dT (kvsO (o' ++ [y])))) bi y := hTy.up L8.f fun _ z => nomatch z
          generalize upd H8 fp (.dT (kvsO (o' ++ [y]))) = H9 at L9 hl9 hP9 hT9 ⊢
          refine ⟨_, rfl, .inl ⟨rfl, _, SqL.of L9.w⟩, _, rfl, wp, _, _, rfl, rfl, L9.w, ?_, ?_⟩
          · rw [List.length_map, lenA', sizeLine_eq]
            rw [List.length_append] at hwb
            omega
          have L10 : LO H (upd H9 wp (.lst ((as' ++ [bi]).map V.ref))) fp wp (o' ++ [y]) (as' ++ [bi]) (wt' ++ [y]) := L9.wset hwpH (Paired.snoc L9.pw hT9)
          have ew : as'.map V.ref ++ [V.ref bi] = (as' ++ [bi]).map V.ref := by rw [List.map_append] <;> rfl
          rw [ew]
          have hP10 : Paired (Trip (upd H9 wp (.lst ((as' ++ [bi]).map V.ref)))) bs (eps vw rows [a1, a2, a3]) := Paired.mono hP9 fun _ _ q => q.up L9.w fun _ z => nomatch z
          refine ⟨o' ++ [y], as' ++ [bi], wt' ++ [y], _, rfl, L10, ?_, hP10, ⟨?_, ?_, ?_, ?_, ?_⟩, ?_, List.mem_append_left _ ht8, ?_⟩
          · rw [upd_ne nlw]; exact hl9
          · exact ndn
          · intro x hx
            rcases List.mem_append.mp hx with z | z
            · exact C8.sub x z
            · rw [List.mem_singleton.mp z]; exact hRy
          · exact fun x hx => List.mem_append_left _ (C8.base x hx)
          · intro x hx
            rcases List.mem_append.mp hx with z | z
            · exact List.mem_append_left _ (C8.wo x z)
            · exact List.mem_append_right _ z
          · intro x hx
            rcases List.mem_append.mp hx with z | z
            · rcases C8.done x z with z | z | z
              · exact .inl (List.mem_append_left _ z)
              · exact .inr (.inl z)
              · exact .inr (.inr fun u hu => List.mem_append_left _ (z u hu))
            · exact .inl (List.mem_append_right _ z)
          · intro z hz
            rw [tk] at hz
            rcases List.mem_append.mp hz with z1 | z1
            · exact List.mem_append_left _ (hy8 z z1)
            · exact List.mem_append_right _ z1
          · rw [List.length_append, List.length_append, List.length_singleton]
            omega
      · rintro σ' H8 ⟨o', as', wt', v5', rfl, L8, hl8, hP8, C8, hy8, ht8, hm8⟩
        rw [List.length_map, lenB, List.take_length] at hy8
        rw [List.length_append, List.length_singleton] at hwb
        refine ⟨⟨o', as', wt', _, _, _, _, _, _, _, rfl, L8, ⟨C8.nd, C8.sub, C8.base, C8.wo, fun x hx => ?_⟩, by omega⟩, ?_⟩
        · rcases C8.done x hx with z | z | z
          · exact .inl z
          · rw [z]
            exact .inr (.inr hy8)
          · exact .inr (.inr z)
        · rw [muLO_at L8]
          omega
    · have hwt : wt = [] := by
        by_cases z : wt = []
        · exact z
        · exact absurd (decide_eq_true z) c
      subst hwt
      have ne_t : ∀ t ∈ o, t ≠ [] := fun t ht => by
        obtain ⟨q, _, h | ⟨v, s, _, _, h⟩⟩ := mem_univ.mp (inU C.sub t ht)
        · rw [h]; exact fun z => nomatch z
        · rw [h]; exact fun z => nomatch z
      refine ⟨_, rfl, fp, _, rfl, .inl L3.f, fun p1 bs hp1 hk => ?_⟩
      have s5 : Same H4 (upd H4 p1 (.lst (bs.map V.ref))) := same_new hp1
      have hPo := kvsO_keys hk
      refine ⟨p1, bs, o, rfl, SqL.of upd_same, ?_, fun p2 bs' hp2 hPs => ?_⟩
      · exact paired_and (Paired.mono hPo fun _ _ q => q.mono s5) ne_t
      have s6 := Same.up (o := .lst (bs'.map V.ref)) s5 hp2
      refine ⟨p2, _, rfl, .inl ⟨SqL.of upd_same, fun p3 hp3 => ?_⟩⟩
      have s7 := Same.up (o := .tup (bs'.map V.ref)) s6 hp3
      have eo : o.mergeSort leT = cloL leT vw rows st := cloL_eq leT_ok hW hU C.nd fun t => ⟨C.sub t, fun h => h.sub C.base fun x hx => by
        rcases C.done x hx with z | z | z
        · cases z
        · exact z.elim
        · exact z⟩
      refine k _ p3 (L3.same.trans s7) ⟨bs', upd_same, ?_⟩
      rw [← eo]
      exact Paired.mono hPs fun _ _ e => (Same.up (same_new hp2) hp3) _ _ e
end
end K81
end
section
set_option Elab.async false
set_option maxRecDepth 100000
set_option maxHeartbeats 4000000
set_option linter.all false
set_option pp.maxSteps 1500
set_option pp.deepTerms false
/-! opened_by -/
namespace K81
open PySem PySem.Spec PyProof.Rows L2 K81M NdefX LamX
/-! ### plain -/
def latO1 (vw : List View) (l : Nat) : List Int → Option (List Int)
  | [q, v, s] => if 0 ≤ v then some [q, v, (go (vw.getD v.toNat ([], [])).1 s.toNat l : Nat)] else none
  | _ => none
def latO (vw : List View) (x : S) (l : Nat) : S := x.filterMap (latO1 vw l)
noncomputable def stepO (vw : List View) (rows : List (List Int)) (x : S) (l : Nat) : S := cloL leT vw rows (latO vw x l)
def isO1 (en : List Nat) : List Int → Bool
  | [q, v, _] => decide (v < 0) && decide (q.toNat ∈ en)
  | _ => false
def isO (en : List Nat) (x : S) : Bool := x.any (isO1 en)
noncomputable def x0O (vw : List View) (rows : List (List Int)) : S := cloL leT vw rows [[0, -1, 0]]
theorem latO_ok {vw : List View} {m n : Nat} (hv : ∀ v ∈ vw, Valid m v.1 v.2) {x : S} (hx : ∀ t ∈ x, t ∈ univ vw n) {l : Nat} (hl : l < m) : ∀ t ∈ latO vw x l, t ∈ univ vw n := by
  intro t ht
  obtain ⟨u, hu, e⟩ := List.mem_filterMap.mp ht
  obtain ⟨q, hq, h | ⟨v, s, hvl, hs, h⟩⟩ := mem_univ.mp (hx u hu)
  · subst h
    cases e
  · subst h
    have e : (if (0 : Int) ≤ (v : Int) then some [(q : Int), (v : Int), ((go (vw.getD v ([], [])).1 s l : Nat) : Int)] else none) = some t := e
    rw [if_pos (by omega)] at e
    rw [← Option.some.inj e]
    have hm : vw.getD v ([], []) ∈ vw := by
      rw [List.getD_eq_getElem?_getD, List.getElem?_eq_getElem hvl]
      exact List.getElem_mem hvl
    exact mem_univ.mpr ⟨q, hq, .inr ⟨v, _, hvl, (hv _ hm).go hs hl, rfl⟩⟩
section
variable {P : Program} {w : World} {K : PySem.W.Frag} {mg : Str → Option Value} {base : Heap}
theorem Clo.weak {k : Nat} {f : Addr} {sp sp' : Sp} {s : Shared} {H : Hp} (C : Clo P w K mg base k f sp s H) (h : ∀ vs H' Q, Same H H' → sp' vs H' Q E0 → sp vs H' Q E0) : Clo P w K mg base k f sp' s H :=
  ⟨C.at_, fun A outer s' H' us vs Q l e hr e0 r q => C.run A outer s' H' us vs Q l e hr e0 r (h _ _ _ e q)⟩
theorem op_in_seqk {X : Cx} (hK : X.K = K) : OpR X (compareOp .In) (rIn K false) := by subst hK; exact op_in_seq
/-- what the closures need of the standings -/
structure UOk (vw : List View) (rows : List (List Int)) (m : Nat) (U : List S) : Prop where
  x0 : x0O vw rows ∈ U
  step : ∀ x ∈ U, ∀ l, l < m → stepO vw rows x l ∈ U
  len : U.length ≤ 1000000
  mem : ∀ x ∈ U, ∀ t ∈ x, t ∈ univ vw rows.length
  few : ∀ x ∈ U, x.length ≤ 100000
structure POk (vw : List View) (rows : List (List Int)) (m : Nat) : Prop where
  wf : Wf vw rows
  val : ∀ v ∈ vw, Valid m v.1 v.2
  m1 : 1 ≤ m
  m3 : m ≤ 3
  v1 : 1 ≤ vw.length
  v3 : vw.length ≤ 3
  r1 : 1 ≤ rows.length
  few : (univ vw rows.length).length ≤ 100000
abbrev sOStep : Stmt := inDef sOpenedBy 0
abbrev sOLet : Stmt := inDef sOpenedBy 1
def nfS (cl : List (Str × Addr)) (c' : Addr) : NF := NF.of sOStep "step" "opened_by.<locals>.step" cl c'
def nfI (cl : List (Str × Addr)) (c' : Addr) : NF := NF.of sOLet "is_let" "opened_by.<locals>.is_let" cl c'
abbrev nmOS : List Str := ["standing", "letter", "views", "steps", "later", "state", "view", "spot"]
abbrev nmOI : List Str := ["standing", "ends", "state", "view", "spot"]
theorem scOStep (cl : List (Str × Addr)) (c' : Addr) : NSc nmOS ["standing", "letter"] ["views", "steps"] (nfS cl c').scope := nsc_by (by show nscC _ _ _ (C8.fnScope sOStep) = true; decide +kernel)
theorem scOLet (cl : List (Str × Addr)) (c' : Addr) : NSc nmOI ["standing"] ["ends"] (nfI cl c').scope := nsc_by (by show nscC _ _ _ (C8.fnScope sOLet) = true; decide +kernel)
def spOStep (K : PySem.W.Frag) (vw : List View) (rows : List (List Int)) (m : Nat) (U : List S) (ws : List (Option V)) : Sp := fun vs H Q E => (∃ va sa, ws = [some (.ref va), some (.ref sa)] ∧ VwsT K H va m vw ∧ Rows K H sa rows) ∧ spStep (stepO vw rows) U m vs H Q E
def spOLet (K : PySem.W.Frag) (en : List Nat) (U : List S) (ws : List (Option V)) : Sp := fun vs H Q E => (∃ ea, ws = [some (.ref ea)] ∧ Sq K H ea ((toI en).map V.int)) ∧ spLet (isO en) U vs H Q E
theorem nok_ostep (T : Txt K mg) {vw : List View} {rows : List (List Int)} {m : Nat} {U : List S} (PO : POk vw rows m) (UO : UOk vw rows m U) (cl : List (Str × Addr)) (f c' : Addr) : NOk P w K mg base CX0 8 f (nfS cl c') ["standing", "letter"] ["views", "steps"] (spOStep K vw rows m U) := by
  refine nok_ofM (k := 7) (scOStep cl c') (fun doc pm ctv us hl => match us, hl with | [_, _], _ => rfl) (fun ws vs H Q E h => ?_) (fun A outer s H vs ws Q E hr hws h => ?_)
  · obtain ⟨_, b, l, x, rfl, _⟩ := h
    rfl
  · obtain ⟨⟨va, sa, rfl, hV, hR⟩, b, l, x, rfl, hT, hx, hl, k⟩ := h
    have nd := (scOStep cl c').nd
    have hu := hr.units
    refine ⟨_, pss_cons (ps_setLc (i := 4) (own := [("state", 5), ("view", 6), ("spot", 7)]) rfl nd rfl rfl rfl (pi_sq (pv 0)) (blkOk_by (N := nmOS) (sc := C8.fnScope sOStep) (by decide +kernel))
        (fun _ _ _ _ _ => pg_tupk (K := K) (n := 3) rfl rfl (pgs_cons (pg_name (i := 5) nd rfl (Or.inl rfl)) (pgs_cons (pg_name (i := 6) nd rfl (Or.inl rfl)) (pgs_cons (pg_name (i := 7) nd rfl (Or.inl rfl)) pgs_nil))))
        (fun _ _ _ _ _ => pts_one (pt_cmpR op_ge (pv 6) pe_int (nomark _)))
        (fun _ _ _ _ _ => pe_tup (pa_cons (pv 5) (pa_cons (pv 6) (pa_cons (pe_ix (ix_sqk (K := K) rfl) (pe_ix (ix_sqk (K := K) rfl) (pe_fldk (K := K) rfl (pe_ix (ix_sqk (K := K) rfl) (pv 2) (pv 6) (fun _ _ => rfl)) rfl) (pv 7) (fun _ _ => rfl)) (pv 1) (fun _ _ => rfl)) pa_nil)))))
      (pss_one (ps_ret (pe_c (c_let_on T) hr (by decide) (pa_cons (pv 2) (pa_cons (pv 3) (pa_cons (pv 4) pa_nil)))))), ?_⟩
    obtain ⟨as, h1, h2⟩ := id hT
    have lenA : as.length = x.length := Paired.len h2
    have xfew := UO.few x hx
    refine ⟨_, rfl, b, _, H, rfl, .inr (SqT.of h1), fun o e => e, fun J wJ D hD => ?_⟩
    refine lc_it wJ (fun i H4 => ∃ acc, LcP H D (fun i acc Hh => ∃ as' : List Addr, acc = as'.map V.ref ∧ Paired (Trip Hh) as' (latO vw (x.take i) l)) i H4 acc) (lcP_start hD fun _ _ => ⟨[], rfl, .nil⟩) (fun i H4 _ ⟨acc, p⟩ => fun o e => p.all _ _ e) ?_ ?_
    · rintro i xv _ H4 hi ⟨acc, p⟩ ⟨rfl, hxv⟩
      obtain ⟨ai, hai, rfl⟩ := map_ref_get hxv
      obtain ⟨t, ht, hTr⟩ := Paired.get h2 hai
      rw [List.length_map, lenA] at hi
      have hTr : Trip H4 ai t := p.all _ _ hTr
      have htU := UO.mem x hx t (List.mem_of_getElem? ht)
      have est : latO vw (x.take (i + 1)) l = latO vw (x.take i) l ++ (latO1 vw l t).toList := by
        unfold latO
        rw [List.take_add_one, ht, List.filterMap_append]
        refine congrArg _ ?_
        show List.filterMap (latO1 vw l) [t] = _
        rw [List.filterMap_cons, List.filterMap_nil]
        cases latO1 vw l t <;> rfl
      obtain ⟨as', rfl, hP⟩ := p.is
      obtain ⟨q, hq, e | ⟨v, s, hv, hs, e⟩⟩ := mem_univ.mp htU
      · subst e
        refine ⟨ai, _, rfl, SqT.of hTr, rfl, _, _, rfl, _, _, rfl, _, _, rfl, rfl, rfl, ?_⟩
        refine ⟨_, rfl, _, _, rfl, rfl, false, vbF (by decide), iteF ?_⟩
        refine lcP_skip p (Same.refl _) ⟨as', rfl, ?_⟩
        rw [est]
        show Paired _ _ (latO vw (x.take i) l ++ [])
        rw [List.append_nil]
        exact hP
      · subst e
        refine ⟨ai, _, rfl, SqT.of hTr, rfl, _, _, rfl, _, _, rfl, _, _, rfl, rfl, rfl, ?_⟩
        refine ⟨_, rfl, _, _, rfl, rfl, true, vbT (by omega), iteT ?_⟩
        obtain ⟨vv, hvv⟩ : ∃ vv, vw[v]? = some vv := ⟨_, List.getElem?_eq_getElem hv⟩
        have ev : vw.getD v ([], []) = vv := by rw [List.getD_eq_getElem?_getD, hvv] <;> rfl
        rw [ev] at hs
        have hvl := PO.val vv (List.mem_of_getElem? hvv)
        obtain ⟨row, hrow, hg⟩ := go_get hvl hs hl
        obtain ⟨ra, hra, hrr⟩ := id hV
        obtain ⟨rb, hrb, hrs⟩ := Paired.get' hrr hvv
        obtain ⟨dx, tt, te, g1, ⟨bs, g2, gP⟩, g3⟩ := hrs.mono p.all
        obtain ⟨bb, hbb, hb2⟩ := Paired.get' gP (i := s) (b := toI row) (by rw [List.getElem?_map, hrow] <;> rfl)
        refine ⟨_, rfl, _, rfl, _, rfl, _, rfl, va, _, _, _, rfl, rfl, .inr (SqT.stood hra fun o e => p.all _ _ e), atI_nat (refs_at hrb), rb, mC K, dx, _, _, rfl, g1, T.cl, T.nS, rfl, _, rfl, tt, _, _, _, rfl, rfl, .inr (SqT.of g2), atI_nat (refs_at hbb), _, rfl, bb, _, _, _, rfl, rfl, .inr (SqT.of hb2), atI_nat (ints_at (toI_at hg)), by show 3 ≤ sizeLine; decide, fun t2 ht2 => ?_⟩
        have s8 : Same H4 (upd H4 t2 (.tup [V.int (q : Int), V.int (v : Int), V.int (go vv.1 s l : Nat)])) := same_new ht2
        have nD : t2 ≠ D := (ne_of_none p.at_ ht2).symm
        refine lcP_put p hi (by rw [sizeLine_eq]; omega) s8 ⟨as' ++ [t2], by rw [List.map_append] <;> rfl, ?_⟩
        have e1 : latO1 vw l [(q : Int), (v : Int), (s : Int)] = some [(q : Int), (v : Int), ((go vv.1 s l : Nat) : Int)] := by
          show (if (0 : Int) ≤ (v : Int) then some [(q : Int), (v : Int), ((go (vw.getD v ([], [])).1 s l : Nat) : Int)] else none) = _
          rw [if_pos (by omega), ev]
        rw [est, e1]
        exact Paired.snoc (Paired.mono hP fun _ _ e => Same.hole s8 _ _ e) (by unfold Trip; rw [hole_ne nD]; exact upd_same)
    · rintro H4 ⟨acc, p⟩
      obtain ⟨as', rfl, hP⟩ := p.is
      rw [List.length_map, lenA, List.take_length] at hP
      have lle : (latO vw x l).length ≤ x.length := List.length_filterMap_le _ _
      refine ⟨_, rfl, _, rfl, _, rfl, va, sa, D, m, vw, rows, as', latO vw x l, rfl, hV.mono p.all, hR.mono p.all, PO.wf, p.at_, Paired.mono hP fun _ _ e => hole_sub _ _ e, latO_ok PO.val (UO.mem x hx) hl, PO.few, PO.v3, by omega, fun H5 p5 s5 h5 => ?_⟩
      exact k _ p5 (p.all.trans s5) h5
theorem nok_olet (T : Txt K mg) {vw : List View} {rows : List (List Int)} {m : Nat} {U : List S} (en : List Nat) (PO : POk vw rows m) (UO : UOk vw rows m U) (cl : List (Str × Addr)) (f c' : Addr) : NOk P w K mg base CX0 8 f (nfI cl c') ["standing"] ["ends"] (spOLet K en U) := by
  refine nok_ofM (k := 7) (scOLet cl c') (fun doc pm ctv us hl => match us, hl with | [_], _ => rfl) (fun ws vs H Q E h => ?_) (fun A outer s H vs ws Q E hr hws h => ?_)
  · obtain ⟨_, b, x, rfl, _⟩ := h
    rfl
  · obtain ⟨⟨ea, rfl, hE⟩, b, x, rfl, hT, hx, k⟩ := h
    have nd := (scOLet cl c').nd
    have hu := hr.units
    refine ⟨_, pss_one (ps_ret (pe_callB (cr_any rfl) (by rfl) (T.f 10 rfl) boot_any (pa_cons (pe_lc (own := [("state", 2), ("view", 3), ("spot", 4)]) (tt := tYes) rfl nd (pi_sq (pv 0)) (blkOk_by (N := nmOI) (sc := C8.fnScope sOLet) (by decide +kernel))
        (fun _ _ _ _ _ => pg_tupk (K := K) (n := 3) rfl rfl (pgs_cons (pg_name (i := 2) nd rfl (Or.inl rfl)) (pgs_cons (pg_name (i := 3) nd rfl (Or.inl rfl)) (pgs_cons (pg_name (i := 4) nd rfl (Or.inl rfl)) pgs_nil)))) (fun _ _ _ _ _ => pts_nil)
        (fun _ _ _ _ _ => pe_and (pe_cmpR op_lt (pv 3) pe_int (nomark _)) (pe_one (pe_cmpR (op_in_seqk (K := K) rfl) (pv 2) (pv 1) (by rfl))))) pa_nil))), ?_⟩
    obtain ⟨as, h1, h2⟩ := id hT
    have lenA : as.length = x.length := Paired.len h2
    have xfew := UO.few x hx
    refine ⟨_, rfl, b, _, H, rfl, .inr (SqT.of h1), fun o e => e, fun J wJ D hD => ?_⟩
    refine lc_it wJ (fun i H4 => ∃ acc, LcP H D (fun i acc _ => acc = ((x.take i).map (isO1 en)).map V.bl) i H4 acc) (lcP_start hD fun _ _ => rfl) (fun i H4 _ ⟨acc, p⟩ => fun o e => p.all _ _ e) ?_ ?_
    · rintro i xv _ H4 hi ⟨acc, p⟩ ⟨rfl, hxv⟩
      obtain ⟨ai, hai, rfl⟩ := map_ref_get hxv
      obtain ⟨t, ht, hTr⟩ := Paired.get h2 hai
      rw [List.length_map, lenA] at hi
      have hTr : Trip H4 ai t := p.all _ _ hTr
      have htU := UO.mem x hx t (List.mem_of_getElem? ht)
      have put : ∀ c : Bool, isO1 en t = c → ∃ acc, H4 D = some (.lst acc) ∧ acc.length < sizeLine ∧ ∃ acc', LcP H D (fun i acc _ => acc = ((x.take i).map (isO1 en)).map V.bl) (i + 1) (upd H4 D (.lst (acc ++ [V.bl c]))) acc' := fun c hc => by
        refine lcP_put p hi (by rw [sizeLine_eq]; omega) (Same.refl _) ?_
        rw [p.is, List.take_add_one, ht, List.map_append, List.map_append, ← hc] <;> rfl
      obtain ⟨q, hq, e | ⟨v, s, hv, hs, e⟩⟩ := mem_univ.mp htU
      · subst e
        refine ⟨ai, _, rfl, SqT.of hTr, rfl, _, _, rfl, _, _, rfl, _, _, rfl, rfl, rfl, yesT ?_⟩
        refine ⟨_, rfl, _, _, rfl, rfl, true, rfl, iteT ?_⟩
        refine ⟨_, rfl, _, rfl, ea, _, rfl, hE.mono p.all, rfl, flat_ints _, ?_⟩
        rw [inV_nat]
        exact put _ rfl
      · subst e
        refine ⟨ai, _, rfl, SqT.of hTr, rfl, _, _, rfl, _, _, rfl, _, _, rfl, rfl, rfl, yesT ?_⟩
        refine ⟨_, rfl, _, _, rfl, rfl, false, vbF (by omega), iteF ?_⟩
        refine put _ ?_
        show (decide ((v : Int) < 0) && decide ((q : Int).toNat ∈ en)) = false
        rw [decide_eq_false (by omega), Bool.false_and]
    · rintro H4 ⟨acc, p⟩
      refine ⟨D, x.map (isO1 en), rfl, SqL.of (by rw [p.at_, p.is, List.length_map, lenA, List.take_length]), ?_⟩
      have e : (x.map (isO1 en)).any id = isO en x := by
        unfold isO
        rw [List.any_map] <;> rfl
      rw [e]
      exact k _ p.all
end
end K81
end
section
set_option Elab.async false
set_option maxRecDepth 100000
set_option maxHeartbeats 4000000
set_option linter.all false
set_option pp.maxSteps 1500
set_option pp.deepTerms false
/-! opened_by, opened_of -/
namespace K81
open PySem PySem.Spec PyProof.Rows L2 K81M NdefX LamX
section
variable {P : Program} {w : World} {K : PySem.W.Frag} {mg : Str → Option Value} {base : Heap}
noncomputable def opL (vw : List View) (rows : List (List Int)) (en : List Nat) (m : Nat) : Lang := stdL m (stepO vw rows) (isO en) (x0O vw rows)
noncomputable def spOpenedBy (K : PySem.W.Frag) : Sp := fun vs H Q _ => ∃ (va sa ea : Addr) (m : Nat) (vw : List View) (rows : List (List Int)) (en : List Nat) (U : List S), vs = [.ref va, .ref sa, .ref ea] ∧ VwsT K H va m vw ∧ Rows K H sa rows ∧ Sq K H ea ((toI en).map V.int) ∧
  POk vw rows m ∧ UOk vw rows m U ∧ (∀ st' en', Canon m (opL vw rows en m) st' en' → st'.length ≤ 60) ∧ TabsN (Tn K) H ∧
  ∀ H' p st' en', ExtN H H' → TabsN (Tn K) H' → Mach K H' p m st' en' → Canon m (opL vw rows en m) st' en' → Q (.ref p) H'
abbrev nmOB : List Str := ["views", "steps", "ends", "step", "is_let"]
theorem scOB : FnScope nmOB ["views", "steps", "ends"] (defScope sOpenedBy) := ⟨rfl, rfl, rfl, by decide +kernel, rfl, by decide +kernel, by decide +kernel⟩
theorem univ_start {vw : List View} {n : Nat} (h : 1 ≤ n) : ∀ t ∈ [[(0 : Int), -1, 0]], t ∈ univ vw n := fun t ht => by
  rw [List.mem_singleton.mp ht]
  exact mem_univ.mpr ⟨0, h, .inl rfl⟩
theorem c_opened_by (T : Txt K mg) (TB : Tbs K mg base) : Cal P w K mg base 10 "opened_by" ["views", "steps", "ends"] (spOpenedBy K) := by
  refine calC sOpenedBy T 26 24 rfl rfl scOB (fun _ _ _ _ _ _ us hl => match us, hl with | [_, _, _], _ => rfl) (fun vs H Q E h => ?_) (fun A outer s H vs Q E hr h => ?_)
  · obtain ⟨va, sa, ea, m, vw, rows, en, U, rfl, _⟩ := h
    rfl
  · obtain ⟨va, sa, ea, m, vw, rows, en, U, rfl, hV, hR, hE, PO, UO, h60, hT, k⟩ := h
    have nd := scOB.nd
    refine ⟨_, pss_cons (ps_ndefS (T := Tn K) (nm := nmAll) (st := sOStep) (name := "step") (pos := ⟨232, 4, 234, 42⟩) (i := 3) rfl TB.ob rfl (List.mem_cons_of_mem _ List.mem_cons_self) (by show _ = (("opened_by" : Str) ++ ".<locals>.") ++ "step"; decide +kernel) tn_one (ndef_free (sc := defScope sOpenedBy) (nsc := C8.fnScope sOStep) (fr := ["views", "steps"]) (by decide +kernel)) rfl rfl rfl nd rfl (Or.inl rfl) (Or.inr rfl))
      (pss_cons (ps_ndefS (T := Tn K) (nm := nmAll) (st := sOLet) (name := "is_let") (pos := ⟨236, 4, 237, 82⟩) (i := 4) rfl TB.ob rfl (List.mem_cons_of_mem _ List.mem_cons_self) (by show _ = (("opened_by" : Str) ++ ".<locals>.") ++ "is_let"; decide +kernel) tn_one (ndef_free (sc := defScope sOpenedBy) (nsc := C8.fnScope sOLet) (fr := ["ends"]) (by decide +kernel)) rfl rfl rfl nd rfl (Or.inl rfl) (Or.inr rfl))
      (pss_one (ps_ret (pe_cS (c_by_lots T) hr (by decide) (pa_cons (pe_fld (pe_ix ix_sq (pv 0) pe_int (fun _ _ => rfl)) rfl) (pa_cons (pe_c (c_let_on T) hr (by decide) (pa_cons (pv 0) (pa_cons (pv 1) (pa_cons (pe_lst (pa_cons (pe_tup (pa_cons pe_int (pa_cons (pe_un un_neg pe_int) (pa_cons pe_int pa_nil)))) pa_nil)) pa_nil))))
        (pa_cons (pv 3) (pa_cons (pv 4) pa_nil)))))))), ?_⟩
    refine ⟨hT, fun fS cS H1 e1 tabs1 hfS0 hfS1 hcS1 => ⟨tabs1, fun fI cI H2 e2 tabs2 hfI0 hfI1 hcI1 => ?_⟩⟩
    have e12 := e1.trans e2
    obtain ⟨v0, hv0⟩ : ∃ v0, vw[0]? = some v0 := ⟨_, List.getElem?_eq_getElem PO.v1⟩
    obtain ⟨ra, hra, hrr⟩ := hV.extN e12
    obtain ⟨rb, hrb, hrs⟩ := Paired.get' hrr hv0
    obtain ⟨dx, tt, te, g1, g2, g3⟩ := id hrs
    refine ⟨_, rfl, va, _, _, _, rfl, rfl, .inr hra, atI_nat (refs_at hrb), rb, mC K, dx, _, _, rfl, g1, T.cl, T.nL, rfl, ?_⟩
    refine ⟨_, rfl, _, rfl, _, rfl, by show 3 ≤ sizeLine; decide, fun tp htp => ⟨by show 1 ≤ sizeLine; decide, fun lp hlp => ?_⟩⟩
    have s3 : Same H2 (upd H2 tp (.tup [V.int 0, V.int (-1), V.int 0])) := same_new htp
    have s4 : Same (upd H2 tp (.tup [V.int 0, V.int (-1), V.int 0])) (upd (upd H2 tp (.tup [V.int 0, V.int (-1), V.int 0])) lp (.lst [V.ref tp])) := same_new hlp
    have s34 := s3.trans s4
    refine ⟨va, sa, lp, m, vw, rows, [tp], [[0, -1, 0]], rfl, (hV.extN e12).mono s34, (ExtN.rows e12 hR).mono s34, PO.wf, upd_same, .cons (s4 _ _ upd_same) .nil, univ_start PO.r1, PO.few, PO.v3, by show 1 ≤ 100000; decide, fun H3 xb s5 hxb => ?_⟩
    have s35 := s34.trans s5
    refine ⟨_, rfl, _, rfl, fun pins s' I => ?_⟩
    have hqS : ((("opened_by" : Str) ++ ".<locals>.") ++ "step") = "opened_by.<locals>.step" := by decide +kernel
    have hqI : ((("opened_by" : Str) ++ ".<locals>.") ++ "is_let") = "opened_by.<locals>.is_let" := by decide +kernel
    have clS := cells_of I (Caps.made (scope := C8.fnScope sOStep) (fr := ["views", "steps"]) (js := [0, 1]) I.ok (ndef_free (sc := defScope sOpenedBy) (nsc := C8.fnScope sOStep) (fr := ["views", "steps"]) (by decide +kernel)) (by decide +kernel) rfl)
    have clI := cells_of I (Caps.made (scope := C8.fnScope sOLet) (fr := ["ends"]) (js := [2]) I.ok (ndef_free (sc := defScope sOpenedBy) (nsc := C8.fnScope sOLet) (fr := ["ends"]) (by decide +kernel)) (by decide +kernel) rfl)
    have hfS2 := s35 _ _ (e2 _ _ hfS1 fnO_ne)
    have hcS2 := s35 _ _ (e2 _ _ hcS1 codeO_ne)
    have hfI2 := s35 _ _ hfI1
    have hcI2 := s35 _ _ hcI1
    have hfS3 := hfS2.trans (congrArg (fun q => some (FnO fS (NF.of sOStep "step" q _ cS))) hqS)
    have hfI3 := hfI2.trans (congrArg (fun q => some (FnO fI (NF.of sOLet "is_let" q _ cI))) hqI)
    have hcS3 := hcS2.trans (congrArg (fun q => some (CodeO cS q)) hqS)
    have hcI3 := hcI2.trans (congrArg (fun q => some (CodeO cI q)) hqI)
    have C1 := clo_nok (P := P) (w := w) (base := base) (nok_ostep T PO UO _ fS cS) hfS3 hcS3 clS
    have C2 := clo_nok (P := P) (w := w) (base := base) (nok_olet T en PO UO _ fI cI) hfI3 hcI3 clI
    have hV3 := (hV.extN e12).mono s35
    have hR3 := (ExtN.rows e12 hR).mono s35
    have hE3 : Sq K H3 ea ((toI en).map V.int) := (ExtN.sq e12 hE).mono s35
    have D1 : Clo P w K mg base 8 fS (spStep (stepO vw rows) U m) s' H3 := Clo.weak C1 fun vs H' Q e q => ⟨⟨va, sa, rfl, hV3.mono e, hR3.mono e⟩, q⟩
    have D2 : Clo P w K mg base 8 fI (spLet (isO en) U) s' H3 := Clo.weak C2 fun vs H' Q e q => ⟨⟨ea, rfl, hE3.mono e⟩, q⟩
    exact ⟨xb, fS, fI, m, x0O vw rows, stepO vw rows, isO en, U, rfl, PO.m1, PO.m3, hxb, UO.x0, UO.step, UO.len, D1, D2, h60, fun H' p st' en' s9 hM hC => k H' p st' en' (e12.trans ((ExtN.of s35).trans (ExtN.of s9))) ((tabs2.ext s35).ext s9) hM hC⟩
end
end K81
end
section
set_option Elab.async false
set_option maxRecDepth 100000
set_option maxHeartbeats 4000000
set_option linter.all false
set_option pp.maxSteps 1500
set_option pp.deepTerms false
/-! opened_of, opened, readings_by, readings_of -/
namespace K81
open PySem PySem.Spec PyProof.Rows L2 K81M NdefX LamX
def rowT (k : Nat) (u : List Nat) (n i : Nat) : List Int := (List.range k).map fun s => if i < n ∧ u[i]? = some s then ((i : Int) + 1) else -1
def rowsT (k : Nat) (u : List Nat) (n : Nat) : List (List Int) := (List.range (u.length + 1)).map (rowT k u n)
def rowsR (k : Nat) (u : List Nat) : List (List Int) := rowsT k u u.length
theorem rowsT_len {k : Nat} {u : List Nat} {n : Nat} : (rowsT k u n).length = u.length + 1 := by unfold rowsT; rw [List.length_map, List.length_range]
theorem rowsT_get {k : Nat} {u : List Nat} {n i : Nat} (h : i < u.length + 1) : (rowsT k u n)[i]? = some (rowT k u n i) := by
  unfold rowsT
  rw [List.getElem?_map, List.getElem?_range h] <;> rfl
theorem rowT_len {k : Nat} {u : List Nat} {n i : Nat} : (rowT k u n i).length = k := by unfold rowT; rw [List.length_map, List.length_range]
theorem rowT_set {k : Nat} {u : List Nat} {i s : Nat} (hs : u[i]? = some s) : rowT k u (i + 1) i = (rowT k u i i).set s ((i : Int) + 1) := by
  refine List.ext_getElem? fun j => ?_
  unfold rowT
  rw [List.getElem?_set, List.getElem?_map, List.getElem?_map, List.length_map, List.length_range]
  by_cases hj : j < k
  · rw [List.getElem?_range hj]
    by_cases e : s = j
    · subst e
      rw [if_pos rfl, if_pos hj]
      show some (if i < i + 1 ∧ u[i]? = some s then (i : Int) + 1 else -1) = _
      rw [if_pos ⟨Nat.lt_succ_self _, hs⟩]
    · rw [if_neg e]
      show some (if i < i + 1 ∧ u[i]? = some j then (i : Int) + 1 else -1) = some (if i < i ∧ u[i]? = some j then (i : Int) + 1 else -1)
      rw [if_neg (fun z => e (Option.some.inj (hs.symm.trans z.2))), if_neg (fun z => Nat.lt_irrefl _ z.1)]
  · rw [List.getElem?_eq_none (l := List.range k) (by rw [List.length_range]; omega)]
    by_cases e : s = j
    · subst e
      rw [if_pos rfl, if_neg hj] <;> rfl
    · rw [if_neg e] <;> rfl
theorem rowT_other {k : Nat} {u : List Nat} {i j : Nat} (h : j ≠ i) : rowT k u (i + 1) j = rowT k u i j := by
  unfold rowT
  refine List.map_congr_left fun s _ => ?_
  have e : (j < i + 1 ∧ u[j]? = some s) = (j < i ∧ u[j]? = some s) := by
    apply propext
    constructor
    · exact fun z => ⟨by omega, z.2⟩
    · exact fun z => ⟨by omega, z.2⟩
  simp only [e]
theorem rowsT_zero {k : Nat} {u : List Nat} : rowsT k u 0 = List.replicate (u.length + 1) (List.replicate k (-1)) := by
  unfold rowsT
  rw [List.eq_replicate_iff]
  refine ⟨by rw [List.length_map, List.length_range], fun r hr => ?_⟩
  obtain ⟨i, _, rfl⟩ := List.mem_map.mp hr
  unfold rowT
  rw [List.eq_replicate_iff]
  refine ⟨by rw [List.length_map, List.length_range], fun z hz => ?_⟩
  obtain ⟨s, _, rfl⟩ := List.mem_map.mp hz
  rw [if_neg (fun z => Nat.not_lt_zero _ z.1)]
section
variable {P : Program} {w : World} {K : PySem.W.Frag} {mg : Str → Option Value} {base : Heap}
/-- a def of the top with how it stands: for calls by keyword -/
def FnF (P : Program) (w : World) (K : PySem.W.Frag) (mg : Str → Option Value) (base : Heap) (k : Nat) (st : Stmt) (x : Str) (ps : List Str) (sp : Sp) : Prop := ∃ fd, FnP K x x st (He.ga K x) fd ∧ FnOk P w K mg base CX0 k (He.ga K x) fd ps sp ∧ mg x = some (.ref (He.ga K x))
theorem calF (st : Stmt) {x : Str} {N ps : List Str} {k : Nat} {sp : Sp} (T : Txt K mg) (i j : Nat) (hd : fn[i]? = some { at_ := (x, none), name := x, qual := x, params := defArgs st, body := defBody st, scope := defScope st }) (hg : faG[j]? = some x) (S : FnScope N ps (defScope st))
    (len : ∀ vs H Q E, sp vs H Q E → vs.length = ps.length)
    (hbody : ∀ (cdv : Value) (A : Around) (outer : List Env) (s : Shared) (H : Hp) (vs : List V) (Q : VK) (E : XK), Room k (A.deeper (envOfC x (defScope st) s.heap.objs.size (He.ga K x) cdv)) → sp vs H Q E →
      ∃ t, PSs (cxOf CX0 P w K mg base N x (defScope st) (He.ga K x) cdv A outer s H E).nox (defBody st) t ∧ t { nx := fun _ H' => Q .non H', rt := Q } (L2.start N vs) H) : FnF P w K mg base (k + 1) st x ps sp := by
  obtain ⟨fd, F0⟩ := T.d i hd
  have F : FnP K x x st (He.ga K x) fd := F0
  exact ⟨fd, F, FnP_ok F S len hbody, T.g j hg⟩
theorem FnF.cal {st : Stmt} {x : Str} {ps : List Str} {k : Nat} {sp : Sp} (h : FnF P w K mg base k st x ps sp)
    (bnd : ∀ (kV doc pm : Value) (an : Option Addr) (cdv ct : Value) (us : List Value), us.length = ps.length → bindArgs (PySem.W.fnOf x x (defArgs st) (defBody st) (defScope st) .none kV doc pm an cdv ct) ⟨us, []⟩ = pure (ps.zip us)) : Cal P w K mg base k x ps sp :=
  let ⟨fd, F, G, m⟩ := h; ⟨fd, G, F.bindsN bnd, F.kp, m⟩
theorem tt_rows {H : Hp} {a : Addr} {rows : List (List Int)} (h : TT H a rows) : Rows K H a rows := let ⟨as, h1, h2⟩ := h; ⟨as, .inr (SqT.of h1), Paired.mono h2 fun _ _ q => .inr (SqT.of q)⟩
/-! ### opened_of, opened -/
noncomputable def spOpenedOf (K : PySem.W.Frag) : Sp := fun vs H Q _ => ∃ (va pa : Addr) (m k : Nat) (vw : List View) (st : List (List Nat)) (en : List Nat) (U : List S), vs = [.ref va, .ref pa] ∧ VwsT K H va m vw ∧ Mach K H pa k st en ∧
  POk vw (toR st) m ∧ UOk vw (toR st) m U ∧ (∀ st' en', Canon m (opL vw (toR st) en m) st' en' → st'.length ≤ 60) ∧ TabsN (Tn K) H ∧
  ∀ H' p st' en', ExtN H H' → TabsN (Tn K) H' → Mach K H' p m st' en' → Canon m (opL vw (toR st) en m) st' en' → Q (.ref p) H'
theorem scOF : FnScope ["views", "machine"] ["views", "machine"] (defScope sOpenedOf) := ⟨rfl, rfl, rfl, by decide +kernel, rfl, by decide +kernel, by decide +kernel⟩
theorem c_opened_of (T : Txt K mg) (TB : Tbs K mg base) : Cal P w K mg base 11 "opened_of" ["views", "machine"] (spOpenedOf K) := by
  refine cal sOpenedOf T 27 25 rfl rfl scOF (fun _ _ _ _ _ _ us hl => match us, hl with | [_, _], _ => rfl) (fun vs H Q E h => ?_) (fun cdv A outer s H vs Q E hr h => ?_)
  · obtain ⟨va, pa, m, k, vw, st, en, U, rfl, _⟩ := h
    rfl
  · obtain ⟨va, pa, m, k, vw, st, en, U, rfl, hV, hM, PO, UO, h60, hT, k⟩ := h
    refine ⟨_, pss_one (ps_ret (pe_c (c_opened_by T TB) hr (by decide) (pa_cons (pv 0) (pa_cons (pe_fld (pv 1) rfl) (pa_cons (pe_fld (pv 1) rfl) pa_nil))))), ?_⟩
    obtain ⟨dx, tt, te, g1, g2, g3⟩ := hM
    exact ⟨_, rfl, _, rfl, pa, mC K, dx, _, _, rfl, g1, T.cl, T.nS, rfl, _, rfl, pa, mC K, dx, _, _, rfl, g1, T.cl, T.nE, rfl, va, tt, te, m, vw, toR st, en, U, rfl, hV, tt_rows g2, .inr (SqT.of g3), PO, UO, h60, hT, k⟩
noncomputable def spOpened (K : PySem.W.Frag) : Sp := fun vs H Q _ => ∃ (va pa : Addr) (m : Nat) (vw : List View) (st : List (List Nat)) (en : List Nat) (U : List S), vs = [.ref va, .ref pa] ∧ Vws K H va m vw ∧ Mach K H pa vw.length st en ∧
  POk vw (toR st) m ∧ UOk vw (toR st) m U ∧ (∀ st' en', Canon m (opL vw (toR st) en m) st' en' → st'.length ≤ 60) ∧ TabsN (Tn K) H ∧
  ∀ H' p st' en', ExtN H H' → TabsN (Tn K) H' → Mach K H' p m st' en' → Canon m (opL vw (toR st) en m) st' en' → Q (.ref p) H'
theorem scOp : FnScope ["views", "machine", "told", "near"] ["views", "machine"] (defScope sOpened) := ⟨rfl, rfl, rfl, by decide +kernel, rfl, by decide +kernel, by decide +kernel⟩
theorem f_opened (T : Txt K mg) (TB : Tbs K mg base) : FnF P w K mg base 12 sOpened "opened" ["views", "machine"] (spOpened K) := by
  refine calF sOpened T 30 28 rfl rfl scOp (fun vs H Q E h => ?_) (fun cdv A outer s H vs Q E hr h => ?_)
  · obtain ⟨va, pa, m, vw, st, en, U, rfl, _⟩ := h
    rfl
  · obtain ⟨va, pa, m, vw, st, en, U, rfl, hV, hM, PO, UO, h60, hT, k⟩ := h
    have nd := scOp.nd
    refine ⟨_, pss_cons (ps_set (i := 2) nd rfl (Or.inl rfl) (pe_c (c_want_views T) hr (by decide) (pa_cons (pv 0) pa_nil)))
      (pss_cons (ps_set (i := 3) nd rfl (Or.inl rfl) (pe_c (c_want_machine T) hr (by decide) (pa_cons (pv 1) pa_nil)))
      (pss_cons (ps_if (pt_cmpR op_ne (pe_fld (pv 3) rfl) (pe_callB call_len_seq (by rfl) (T.f 0 rfl) boot_len (pa_cons (pv 2) pa_nil)) (nomark _)) (pss_one ps_never) pss_nil)
      (pss_one (ps_ret (pe_c (c_opened_of T TB) hr (by decide) (pa_cons (pv 2) (pa_cons (pv 3) pa_nil))))))), ?_⟩
    refine ⟨_, rfl, va, m, vw, rfl, hV, PO.v1, PO.v3, fun H1 ta s1 hV1 => ?_⟩
    have hM1 := hM.mono s1
    refine ⟨_, rfl, pa, vw.length, st, en, rfl, hM1, ?_⟩
    obtain ⟨dx, tt, te, g1, g2, g3⟩ := id hM1
    obtain ⟨ra, hra, hrr⟩ := id hV1
    have lr : (ra.map V.ref).length = vw.length := by rw [List.length_map, Paired.len hrr]
    have ec : V.bl (!decide (V.int (vw.length : Int) = V.int ((ra.map V.ref).length : Int))) = V.bl false := by rw [lr]; simp
    refine ⟨_, rfl, pa, mC K, dx, _, _, rfl, g1, T.cl, T.nL, rfl, _, rfl, ta, ra.map V.ref, rfl, .inr hra, rfl, false, ec, ?_⟩
    exact iteF ⟨_, rfl, _, rfl, ta, pa, m, _, vw, st, en, U, rfl, hV1, hM1, PO, UO, h60, hT.ext s1, fun H' p st' en' e tabs hMp hC => k H' p st' en' ((ExtN.of s1).trans e) tabs hMp hC⟩
theorem c_opened (T : Txt K mg) (TB : Tbs K mg base) : Cal P w K mg base 12 "opened" ["views", "machine"] (spOpened K) := (f_opened T TB).cal fun _ _ _ _ _ _ us hl => match us, hl with | [_, _], _ => rfl
theorem paired_of_get {A B : Type} {F : A → B → Prop} : ∀ {l1 : List A} {l2 : List B}, l1.length = l2.length → (∀ (i : Nat) (a : A) (b : B), l1[i]? = some a → l2[i]? = some b → F a b) → Paired F l1 l2
  | [], [], _, _ => .nil
  | a :: l1, b :: l2, h, f => .cons (f 0 a b rfl rfl) (paired_of_get (by simpa using h) fun i x y hx hy => f (i + 1) x y (by simpa using hx) (by simpa using hy))
  | [], _ :: _, h, _ => by simp at h
  | _ :: _, [], h, _ => by simp at h
theorem rep_flat1 (m : Nat) : (List.replicate m [V.int (-1)]).flatten = (List.replicate m (-1 : Int)).map V.int := by
  induction m with
  | zero => rfl
  | succ m ih =>
    rw [List.replicate_succ, List.replicate_succ, List.flatten_cons, ih, List.map_cons] <;> rfl
/-! ### readings_by -/
noncomputable def spReadingsBy (K : PySem.W.Frag) : Sp := fun vs H Q _ => ∃ (va : Addr) (m : Nat) (vw : List View) (u : List Nat) (U : List S), vs = [.ref va, .str (wS u)] ∧ VwsT K H va m vw ∧ Wd vw.length u ∧
  POk vw (rowsR vw.length u) m ∧ UOk vw (rowsR vw.length u) m U ∧ (∀ st' en', Canon m (opL vw (rowsR vw.length u) [u.length] m) st' en' → st'.length ≤ 60) ∧ TabsN (Tn K) H ∧
  ∀ H' p st' en', ExtN H H' → TabsN (Tn K) H' → Mach K H' p m st' en' → Canon m (opL vw (rowsR vw.length u) [u.length] m) st' en' → Q (.ref p) H'
abbrev nmRB : List Str := ["views", "word", "place", "rows", "sign"]
theorem scRB : FnScope nmRB ["views", "word"] (defScope sReadingsBy) := ⟨rfl, rfl, rfl, by decide +kernel, rfl, by decide +kernel, by decide +kernel⟩
theorem c_readings_by (T : Txt K mg) (TB : Tbs K mg base) : Cal P w K mg base 11 "readings_by" ["views", "word"] (spReadingsBy K) := by
  refine cal sReadingsBy T 28 26 rfl rfl scRB (fun _ _ _ _ _ _ us hl => match us, hl with | [_, _], _ => rfl) (fun vs H Q E h => ?_) (fun cdv A outer s H vs Q E hr h => ?_)
  · obtain ⟨va, m, vw, u, U, rfl, _⟩ := h
    rfl
  · obtain ⟨va, m, vw, u, U, rfl, hV, W, PO, UO, h60, hT, k⟩ := h
    have nd := scRB.nd
    refine ⟨_, pss_cons (ps_setLc (i := 3) (own := [("place", 2)]) (g := gName 2) (tt := tYes) rfl nd rfl rfl rfl (pi_range1 rfl (T.f 12 rfl) (pa_cons (pe_op op_add (pe_callB call_len_str (by rfl) (T.f 0 rfl) boot_len (pa_cons (pv 1) pa_nil)) pe_int) pa_nil)) (blkOk_by (N := nmRB) (sc := defScope sReadingsBy) (by decide +kernel))
        (fun _ _ _ _ _ => pg_name (i := 2) nd rfl (Or.inl rfl)) (fun _ _ _ _ _ => pts_nil)
        (fun _ _ _ _ _ => pe_op op_rep (pe_lst (pa_cons (pe_un un_neg pe_int) pa_nil)) (pe_callB (call_len_seqk (K := K) rfl) (by rfl) (T.f 0 rfl) boot_len (pa_cons (pv 0) pa_nil))))
      (pss_cons (ps_for PassesOwn.never rfl (pi_enSq (K := K) rfl (by rfl) (T.f 11 rfl) (pa_cons (pe_c (c_spots T) hr (by decide) (pa_cons (pv 1) pa_nil)) pa_nil)) (pg_tup rfl (pgs_cons (pg_name (i := 2) nd rfl (Or.inl rfl)) (pgs_cons (pg_name (i := 4) nd rfl (Or.inl rfl)) pgs_nil)))
        (pss_one (ps_asg (pe_op op_add (pv 2) pe_int) (pg_sub (pe_ix ix_list (pv 3) (pv 2) (fun _ _ => rfl)) (pv 4) set_list))))
      (pss_one (ps_ret (pe_c (c_opened_by T TB) hr (by decide) (pa_cons (pv 0) (pa_cons (pv 3) (pa_cons (pe_tup (pa_cons (pe_callB call_len_str (by rfl) (T.f 0 rfl) boot_len (pa_cons (pv 1) pa_nil)) pa_nil)) pa_nil))))))), ?_⟩
    obtain ⟨ra, hra, hrr⟩ := id hV
    have lr : ra.length = vw.length := Paired.len hrr
    have hls : (wS u).length ≤ sizeLine := by rw [wS_len, sizeLine_eq]; have := W.few; omega
    refine ⟨_, rfl, _, rfl, hls, _, _, rfl, rfl, _, rfl, by rw [wS_len]; have := W.few; omega, by rw [wS_len]; have := W.few; omega, ?_⟩
    have eN : (((wS u).length : Int) + 1).toNat = u.length + 1 := by rw [wS_len]; omega
    rw [eN]
    intro D hD
    refine lc_it (walk_range (lo := 0) (n := u.length + 1)) (fun i H4 => ∃ acc, LcP H D (fun i acc Hh => ∃ bs : List Addr, acc = bs.map V.ref ∧ bs.Nodup ∧ (∀ b ∈ bs, H b = none ∧ b ≠ D) ∧ Paired (fun b (r : List Int) => Hh b = some (.lst (r.map V.int))) bs (List.replicate i (List.replicate vw.length (-1)))) i H4 acc) (lcP_start hD fun _ _ => ⟨[], rfl, List.nodup_nil, (fun b hb => nomatch hb), .nil⟩) (fun _ _ _ _ => trivial) ?_ ?_
    · rintro i x _ H4 hi ⟨acc, p⟩ ⟨rfl, rfl⟩
      obtain ⟨bs, rfl, ndb, hn, hP⟩ := p.is
      refine ⟨rfl, yesT ⟨_, rfl, by show 1 ≤ sizeLine; decide, fun z1 hz1 => ⟨_, rfl, va, ra.map V.ref, rfl, .inr ?_, z1, _, _, rfl, rfl, upd_same, ?_, ?_, ?_, fun z2 hz2 => ?_⟩⟩⟩
      · exact SqT.stood hra fun o e => (Same.up p.all hz1) _ _ e
      · omega
      · rw [List.length_map, lr]; have := PO.v3; omega
      · rw [List.length_map, lr, sizeLine_eq]
        have := PO.v3
        show 1 * _ ≤ _
        omega
      rw [show ((ra.map V.ref).length : Int).toNat = vw.length by rw [List.length_map, lr]; omega, rep_flat1] at *
      have s1 : Same H4 (upd H4 z1 (.lst [V.int (-1)])) := same_new hz1
      have s2 := Same.up (o := .lst ((List.replicate vw.length (-1 : Int)).map V.int)) s1 hz2
      have nD : z2 ≠ D := (ne_of_none (s1 _ _ p.at_) hz2).symm
      have z2H : H z2 = none := Same.none (p.all.trans s1) hz2
      have z2b : z2 ∉ bs := fun hm => by
        obtain ⟨j, hj⟩ := List.mem_iff_getElem?.mp hm
        obtain ⟨r, _, h2⟩ := Paired.get hP hj
        have := s1 _ _ (hole_sub _ _ h2)
        rw [hz2] at this
        cases this
      refine lcP_put p hi (by rw [sizeLine_eq]; have := W.few; omega) s2 ⟨bs ++ [z2], by rw [List.map_append] <;> rfl, ?_, ?_, ?_⟩
      · exact List.nodup_append.mpr ⟨ndb, List.nodup_cons.mpr ⟨by simp, List.nodup_nil⟩, fun a ha b hb e => z2b (by have := List.mem_singleton.mp hb; rw [← this, ← e]; exact ha)⟩
      · intro b hb
        rcases List.mem_append.mp hb with z | z
        · exact hn b z
        · rw [List.mem_singleton.mp z]; exact ⟨z2H, nD⟩
      · rw [List.replicate_succ']
        exact Paired.snoc (Paired.mono hP fun _ _ e => Same.hole s2 _ _ e) (by rw [hole_ne nD]; exact upd_same)
    rintro H4 ⟨acc, p⟩
    obtain ⟨bs, rfl, ndb, hn, hP⟩ := p.is
    rw [← rowsT_zero] at hP
    have hP4 : Paired (fun b (r : List Int) => H4 b = some (.lst (r.map V.int))) bs (rowsT vw.length u 0) := Paired.mono hP fun _ _ e => hole_sub _ _ e
    have sH4 := p.all
    have hD4 := p.at_
    clear hP p
    refine ⟨_, rfl, u, rfl, fun l hl => by have := W.all l hl; have := PO.v3; omega, W.few, fun H5 tp s5 htp0 htp => ?_⟩
    have lenb : bs.length = u.length + 1 := by rw [Paired.len hP4, rowsT_len]
    refine ⟨tp, _, H5, rfl, .inr (SqT.of htp), fun o e => e, fun J wJ => ?_⟩
    refine for_it wJ (fun i σ' H6 => ∃ v2 v4, σ' = [some (.ref va), some (.str (wS u)), v2, some (.ref D), v4] ∧ Same H H6 ∧ H6 tp = some (.tup ((toI u).map V.int)) ∧ H6 D = some (.lst (bs.map V.ref)) ∧ Paired (fun b (r : List Int) => H6 b = some (.lst (r.map V.int))) bs (rowsT vw.length u i))
      ⟨none, none, rfl, sH4.trans s5, htp, s5 _ _ hD4, Paired.mono hP4 fun _ _ e => s5 _ _ e⟩ (fun i σ' H6 _ ⟨_, _, _, _, h, _⟩ => fun o e => by rw [htp] at e; rw [h, e]) ?_ ?_
    · rintro i x σ' H6 _ hi ⟨v2, v4, rfl, sH6, h1, h2, h3⟩ ⟨T1, x1, rfl, hT1, rfl, hx1⟩
      obtain ⟨z, hz, rfl⟩ := map_int_get hx1
      obtain ⟨l, hl, rfl⟩ := toI_get hz
      rw [ivs_len] at hi
      have hlk := W.all l (List.mem_of_getElem? hl)
      have s7 : Same H6 (upd H6 T1 (.tup [V.int (i : Nat), V.int (l : Nat)])) := same_new hT1
      refine ⟨T1, _, rfl, SqT.of upd_same, rfl, _, _, rfl, _, _, rfl, rfl, ?_⟩
      obtain ⟨b, hb, hbr⟩ := Paired.get' h3 (rowsT_get (k := vw.length) (u := u) (n := i) (i := i) (by omega))
      have hbm := List.mem_of_getElem? hb
      obtain ⟨hbH, hbD⟩ := hn b hbm
      generalize upd H6 T1 (.tup [V.int (i : Nat), V.int (l : Nat)]) = H7 at s7 ⊢
      refine ⟨_, rfl, _, _, rfl, rfl, _, rfl, _, rfl, D, _, _, _, rfl, rfl, SqL.of (s7 _ _ h2), atI_nat (refs_at hb), _, rfl, b, _, _, l, rfl, rfl, s7 _ _ hbr, ?_, _, _, rfl, same_mut (sH6.trans s7) hbH, ?_, ?_, ?_⟩
      · rw [List.length_map, rowT_len]
        unfold ixN
        rw [if_pos (by omega), if_pos (by omega)] <;> rfl
      · rw [upd_ne (ne_of (s7 _ _ h1) (s7 _ _ hbr) (fun z => nomatch z))]
        exact s7 _ _ h1
      · rw [upd_ne hbD.symm]
        exact s7 _ _ h2
      · refine paired_of_get (by rw [lenb, rowsT_len]) fun j c r hc hr => ?_
        have hj : j < u.length + 1 := by rw [← lenb]; exact (List.getElem?_eq_some_iff.mp hc).1
        rw [rowsT_get hj] at hr
        obtain rfl := Option.some.inj hr
        by_cases e : j = i
        · subst e
          obtain rfl : c = b := Option.some.inj (hc.symm.trans hb)
          rw [upd_same, rowT_set hl, List.map_set]
        · have ncb : c ≠ b := fun z => e ((List.getElem?_inj (by omega) ndb).mp (hc.trans (by rw [z]; exact hb.symm)))
          rw [upd_ne ncb, rowT_other e]
          obtain ⟨c', hc', hcr⟩ := Paired.get' h3 (rowsT_get (k := vw.length) (u := u) (n := i) hj)
          obtain rfl : c = c' := Option.some.inj (hc.symm.trans hc')
          exact s7 _ _ hcr
    rintro σ' H6 ⟨v2, v4, rfl, sH6, h1, h2, h3⟩
    rw [List.length_map, List.length_map] at h3
    refine ⟨_, rfl, _, rfl, _, rfl, _, rfl, hls, by show 1 ≤ sizeLine; decide, fun ep hep => ?_⟩
    have s7 := Same.up (o := .tup [V.int ((wS u).length : Int)]) sH6 hep
    have s8 : Same H6 (upd H6 ep (.tup [V.int ((wS u).length : Int)])) := same_new hep
    refine ⟨va, D, ep, m, vw, rowsR vw.length u, [u.length], U, rfl, hV.mono s7, ⟨bs, .inl (SqL.of (s8 _ _ h2)), Paired.mono h3 fun _ _ e => .inl (SqL.of (s8 _ _ e))⟩, .inr (SqT.of ?_), PO, UO, h60, hT.ext s7, fun H' p st' en' e tabs hM hC => k H' p st' en' ((ExtN.of s7).trans e) tabs hM hC⟩
    rw [upd_same, wS_len] <;> rfl
/-! ### readings_of -/
noncomputable def spReadingsOf (K : PySem.W.Frag) : Sp := fun vs H Q _ => ∃ (va : Addr) (m : Nat) (vw : List View) (u : List Nat) (U : List S), vs = [.ref va, .str (wS u)] ∧ Vws K H va m vw ∧ Wd vw.length u ∧
  POk vw (rowsR vw.length u) m ∧ UOk vw (rowsR vw.length u) m U ∧ (∀ st' en', Canon m (opL vw (rowsR vw.length u) [u.length] m) st' en' → st'.length ≤ 60) ∧ TabsN (Tn K) H ∧
  ∀ H' p st' en', ExtN H H' → TabsN (Tn K) H' → Mach K H' p m st' en' → Canon m (opL vw (rowsR vw.length u) [u.length] m) st' en' → Q (.ref p) H'
theorem scRO : FnScope ["views", "word", "told"] ["views", "word"] (defScope sReadingsOf) := ⟨rfl, rfl, rfl, by decide +kernel, rfl, by decide +kernel, by decide +kernel⟩
theorem f_readings_of (T : Txt K mg) (TB : Tbs K mg base) : FnF P w K mg base 12 sReadingsOf "readings_of" ["views", "word"] (spReadingsOf K) := by
  refine calF sReadingsOf T 29 27 rfl rfl scRO (fun vs H Q E h => ?_) (fun cdv A outer s H vs Q E hr h => ?_)
  · obtain ⟨va, m, vw, u, U, rfl, _⟩ := h
    rfl
  · obtain ⟨va, m, vw, u, U, rfl, hV, W, PO, UO, h60, hT, k⟩ := h
    have nd := scRO.nd
    refine ⟨_, pss_cons (ps_set (i := 2) nd rfl (Or.inl rfl) (pe_c (c_want_views T) hr (by decide) (pa_cons (pv 0) pa_nil)))
      (pss_cons (ps_expr (pe_c (c_want_word T) hr (by decide) (pa_cons (pe_callB call_len_seq (by rfl) (T.f 0 rfl) boot_len (pa_cons (pv 2) pa_nil)) (pa_cons (pv 1) pa_nil))))
      (pss_one (ps_ret (pe_c (c_readings_by T TB) hr (by decide) (pa_cons (pv 2) (pa_cons (pv 1) pa_nil)))))), ?_⟩
    refine ⟨_, rfl, va, m, vw, rfl, hV, PO.v1, PO.v3, fun H1 ta s1 hV1 => ?_⟩
    obtain ⟨ra, hra, hrr⟩ := id hV1
    have lr : (ra.map V.ref).length = vw.length := by rw [List.length_map, Paired.len hrr]
    refine ⟨_, rfl, ta, ra.map V.ref, rfl, .inr hra, _, rfl, vw.length, u, by rw [lr] <;> rfl, W, fun H2 s2 => ?_⟩
    have s12 := s1.trans s2
    exact ⟨_, rfl, _, rfl, ta, m, vw, u, U, rfl, hV1.mono s2, W, PO, UO, h60, hT.ext s12, fun H' p st' en' e tabs hM hC => k H' p st' en' ((ExtN.of s12).trans e) tabs hM hC⟩
theorem c_readings_of (T : Txt K mg) (TB : Tbs K mg base) : Cal P w K mg base 12 "readings_of" ["views", "word"] (spReadingsOf K) := (f_readings_of T TB).cal fun _ _ _ _ _ _ us hl => match us, hl with | [_, _], _ => rfl
end
end K81
end
section
set_option Elab.async false
set_option maxRecDepth 100000
set_option maxHeartbeats 4000000
set_option linter.all false
set_option pp.maxSteps 1500
set_option pp.deepTerms false
/-! the law's draws -/
namespace K81
open PySem PySem.Spec PyProof.Rows L2 K81M NdefX LamX
def Pot (H : Hp) (p : Addr) : Prop := ∃ a b : Int, 0 ≤ a ∧ 0 ≤ b ∧ b ≤ 2147483647 ∧ H p = some (.lst [.int a, .int b])
/-- all but the pot stands; new things may stand -/
def ButP (p : Addr) (H H' : Hp) : Prop := But p H H' ∧ Pot H' p
section
variable {P : Program} {w : World} {K : PySem.W.Frag} {mg : Str → Option Value} {base : Heap}
def spPot (K : PySem.W.Frag) : Sp := fun vs H Q _ => ∃ (sc : Addr) (ns : List Int), vs = [.ref sc, .int 0] ∧ SqL K H sc (ns.map V.int) ∧ ns.length ≤ 1000 ∧ ∀ H' p, Same H H' → H p = none → Pot H' p → Q (.ref p) H'
abbrev nmPot : List Str := ["_law_script", "_law_k", "_law_cell"]
theorem scPot : FnScope nmPot ["_law_script", "_law_k"] (defScope sPot) := ⟨rfl, rfl, rfl, by decide +kernel, rfl, by decide +kernel, by decide +kernel⟩
theorem c_pot (T : Txt K mg) : Cal P w K mg base 1 "_law_pot" ["_law_script", "_law_k"] (spPot K) := by
  refine cal sPot T 31 29 rfl rfl scPot (fun _ _ _ _ _ _ us hl => match us, hl with | [_, _], _ => rfl) (fun vs H Q E h => ?_) (fun cdv A outer s H vs Q E hr h => ?_)
  · obtain ⟨sc, ns, rfl, _⟩ := h
    rfl
  · obtain ⟨sc, ns, rfl, hS, few, k⟩ := h
    have nd := scPot.nd
    refine ⟨_, C8.pss_cut (ps_set (i := 2) nd rfl (Or.inl rfl) (pe_ifExp (pt_cmpR op_lt (pv 1) (pe_callB call_len_seq (by rfl) (T.f 0 rfl) boot_len (pa_cons (pv 0) pa_nil)) (nomark _)) (pe_callB call_abs (by rfl) (T.f 13 rfl) boot_abs (pa_cons (pe_ix ix_sq (pv 0) (pv 1) (fun _ _ => rfl)) pa_nil)) (pe_op op_add (pe_op op_mul pe_int (pv 1)) pe_int)))
      (pss_one (ps_ret (pe_lst (pa_cons (pe_callB (call_max2 rfl) (by rfl) (T.f 14 rfl) boot_max (pa_cons pe_int (pa_cons (pe_op op_sub (pv 2) (pe_op op_pow pe_int pe_int)) pa_nil)))
        (pa_cons (pe_op op_add (pe_op op_mod (pe_callTy call_int1 (by rfl) (T.f 4 rfl) boot_int (pa_cons (pe_op op_add (pe_op op_add (pe_op op_mul (pe_op op_mod (pe_callTy call_int1 (by rfl) (T.f 4 rfl) boot_int (pa_cons (pv 2) pa_nil)) pe_int) pe_int) (pe_op op_mul pe_int (pv 1))) pe_int) pa_nil)) pe_int) pe_int) pa_nil))))), ?_⟩
    refine ⟨fun σ' H' => ∃ c : Int, σ' = [some (.ref sc), some (.int 0), some (.int c)] ∧ H' = H, ?_, ?_⟩
    · refine ⟨_, rfl, _, rfl, sc, _, rfl, .inl hS, _, _, rfl, rfl, _, rfl, ?_⟩
      refine ite2 (fun c => ?_) (fun c => ?_)
      · have hp : 0 < ns.length := by have := of_decide_eq_true c; rw [List.length_map] at this; omega
        obtain ⟨n0, hn0⟩ : ∃ n0, ns[0]? = some n0 := ⟨_, List.getElem?_eq_getElem hp⟩
        exact ⟨_, rfl, _, rfl, sc, _, _, _, rfl, rfl, .inl hS, atI_nat (j := 0) (ints_at hn0), _, rfl, _, rfl, rfl⟩
      · exact ⟨_, rfl, _, _, rfl, rfl, .inl ⟨by decide, by decide⟩, _, _, rfl, rfl, _, rfl, rfl⟩
    rintro σ' H' ⟨c, rfl, rfl⟩
    refine ⟨_, rfl, _, _, rfl, rfl, ⟨by decide, by decide, by decide⟩, _, _, rfl, rfl, _, _, rfl, ?_⟩
    have hpos : ∀ c : Int, 0 ≤ c % 2147483563 ∧ c % 2147483563 < 2147483563 := fun c => ⟨Int.emod_nonneg _ (by decide), Int.emod_lt_of_pos _ (by decide)⟩
    refine ⟨_, rfl, .inl ⟨_, rfl, _, _, rfl, rfl, (by show (0 : Int) < 2147483549; decide), _, _, rfl, rfl, .inr ⟨by decide, by decide⟩, _, rfl, _, _, rfl, rfl, .inr ⟨by decide, by decide⟩, _, _, rfl, rfl, _, _, rfl, rfl, .inl ⟨_, rfl, _, _, rfl, rfl, (by show (0 : Int) < 2147483563; decide), _, _, rfl, rfl, by show 2 ≤ sizeLine; decide, fun p hp => ?_⟩⟩⟩
    refine k _ p (same_new hp) hp ⟨_, _, ?_, ?_, ?_, upd_same⟩
    · split <;> omega
    · have := (hpos (c % 2147483549 * 40829 + 1811 * 0 + 109)).1
      omega
    · have := (hpos (c % 2147483549 * 40829 + 1811 * 0 + 109)).2
      omega
def spDraw : Sp := fun vs H Q _ => ∃ (p : Addr) (n : Nat), vs = [.ref p, .int (n : Int)] ∧ Pot H p ∧ 1 ≤ n ∧ n ≤ 1000 ∧ ∀ (d : Nat) H', d < n → ButP p H H' → Q (.int (d : Int)) H'
abbrev nmDraw : List Str := ["_law_pot_here", "_law_size", "_law_digit"]
theorem scDraw : FnScope nmDraw ["_law_pot_here", "_law_size"] (defScope sDraw) := ⟨rfl, rfl, rfl, by decide +kernel, rfl, by decide +kernel, by decide +kernel⟩
theorem c_draw (T : Txt K mg) : Cal P w K mg base 1 "_law_draw" ["_law_pot_here", "_law_size"] spDraw := by
  refine cal sDraw T 32 30 rfl rfl scDraw (fun _ _ _ _ _ _ us hl => match us, hl with | [_, _], _ => rfl) (fun vs H Q E h => ?_) (fun cdv A outer s H vs Q E hr h => ?_)
  · obtain ⟨p, n, rfl, _⟩ := h
    rfl
  · obtain ⟨p, n, rfl, ⟨a, b, ha, hb, hb2, hP⟩, n1, n2, k⟩ := h
    have nd := scDraw.nd
    refine ⟨_, pss_cons (ps_if (pt_cmpR op_gt (pe_ix ix_list (pv 0) pe_int (fun _ _ => rfl)) pe_int (nomark _))
        (pss_cons (ps_asg (pe_callB call_divmodW (by rfl) (T.f 15 rfl) boot_divmod (pa_cons (pe_ix ix_list (pv 0) pe_int (fun _ _ => rfl)) (pa_cons (pv 1) pa_nil))) (pg_tup rfl (pgs_cons (pg_sub (pv 0) pe_int set_list) (pgs_cons (pg_name (i := 2) nd rfl (Or.inl rfl)) pgs_nil))))
        (pss_one (ps_ret (pv 2)))) pss_nil)
      (pss_cons (ps_asg (pe_op op_mod (pe_callTy call_int1 (by rfl) (T.f 4 rfl) boot_int (pa_cons (pe_op op_add (pe_op op_mul (pe_ix ix_list (pv 0) pe_int (fun _ _ => rfl)) pe_int) pe_int) pa_nil)) pe_int) (pg_sub (pv 0) pe_int set_list))
      (pss_one (ps_ret (pe_op op_mod (pe_callTy call_int1 (by rfl) (T.f 4 rfl) boot_int (pa_cons (pe_op op_fdiv (pe_op op_mod (pe_callTy call_int1 (by rfl) (T.f 4 rfl) boot_int (pa_cons (pe_op op_mul (pe_ix ix_list (pv 0) pe_int (fun _ _ => rfl)) (pe_ix ix_list (pv 0) pe_int (fun _ _ => rfl))) pa_nil)) pe_int) pe_int) pa_nil)) (pv 1))))), ?_⟩
    refine ⟨_, rfl, p, _, _, _, rfl, rfl, SqL.of hP, rfl, _, _, rfl, rfl, _, rfl, ?_⟩
    refine ite2 (fun c => ?_) (fun c => ?_)
    · refine ⟨_, rfl, p, _, _, _, rfl, rfl, SqL.of hP, rfl, _, rfl, _, _, rfl, ⟨by omega, PyProof.noPylong_small (by omega)⟩, fun t ht => ?_⟩
      have hP1 : (upd H t (.tup [V.int (a / (n : Int)), V.int (a % (n : Int))])) p = some (.lst [.int a, .int b]) := (same_new ht) _ _ hP
      refine ⟨t, _, rfl, SqT.of upd_same, rfl, _, _, rfl, _, rfl, p, _, _, 0, rfl, rfl, hP1, rfl, _, _, rfl, rfl, _, rfl, ?_⟩
      have h1 : 0 ≤ a % (n : Int) := Int.emod_nonneg _ (by omega)
      have h2 : a % (n : Int) < n := Int.emod_lt_of_pos _ (by omega)
      have e1 : a % (n : Int) = ((a % (n : Int)).toNat : Nat) := (Int.toNat_of_nonneg h1).symm
      have q := k (a % (n : Int)).toNat (upd (upd H t (.tup [V.int (a / (n : Int)), V.int (a % (n : Int))])) p (.lst [.int (a / (n : Int)), .int b])) (by omega) ⟨fun c o hc e => by rw [upd_ne hc]; exact (same_new ht) _ _ e, _, _, Int.ediv_nonneg ha (by omega), hb, hb2, upd_same⟩
      rw [← e1] at q
      exact q
    · refine ⟨_, rfl, p, _, _, _, rfl, rfl, SqL.of hP, rfl, _, _, rfl, rfl, .inr ⟨by decide, by decide⟩, _, _, rfl, rfl, .inl ⟨_, rfl, _, _, rfl, rfl, (by show (0 : Int) < 2147483587; decide), _, rfl, p, _, _, 1, rfl, rfl, hP, rfl, ?_⟩⟩
      have hb' : 0 ≤ (b * 39373 + 701) % 2147483587 ∧ (b * 39373 + 701) % 2147483587 < 2147483587 := ⟨Int.emod_nonneg _ (by decide), Int.emod_lt_of_pos _ (by decide)⟩
      have hP2 : (upd H p (.lst ([V.int a, V.int b].set 1 (V.int ((b * 39373 + 701) % 2147483587))))) p = some (.lst [.int a, .int ((b * 39373 + 701) % 2147483587)]) := upd_same
      refine ⟨_, rfl, p, _, _, _, rfl, rfl, SqL.of hP2, rfl, _, rfl, p, _, _, _, rfl, rfl, SqL.of hP2, rfl, _, _, rfl, rfl, .inl ⟨by omega, by omega⟩, .inl ⟨_, rfl, _, _, rfl, rfl, (by show (0 : Int) < 2147483563; decide), _, _, rfl, rfl, ⟨by decide, by decide⟩, .inl ⟨_, rfl, _, rfl, _, _, rfl, rfl, (by show (0 : Int) < (n : Int); omega), ?_⟩⟩⟩
      generalize hc : (b * 39373 + 701) % 2147483587 * ((b * 39373 + 701) % 2147483587) % 2147483563 / 37 = c
      have h1 : 0 ≤ c % (n : Int) := Int.emod_nonneg _ (by omega)
      have h2 : c % (n : Int) < n := Int.emod_lt_of_pos _ (by omega)
      have e1 : c % (n : Int) = ((c % (n : Int)).toNat : Nat) := (Int.toNat_of_nonneg h1).symm
      have q := k (c % (n : Int)).toNat (upd H p (.lst [.int a, .int ((b * 39373 + 701) % 2147483587)])) (by omega) ⟨fun c o hc e => by rw [upd_ne hc]; exact e, a, _, ha, hb'.1, by omega, upd_same⟩
      rw [← e1] at q
      exact q
end
end K81
end
section
set_option Elab.async false
set_option maxRecDepth 100000
set_option maxHeartbeats 4000000
set_option linter.all false
set_option pp.maxSteps 1500
set_option pp.deepTerms false
/-! literals; the law's picks and drawn machines -/
namespace K81
open PySem PySem.Spec PyProof.Rows L2 K81M NdefX LamX
/-! ### data written in the text -/
inductive Lt where
  | int (i : Int)
  | lst (ds : List Lt)
  | tup (ds : List Lt)
mutual
def At (H0 : Hp) : Lt → Hp → V → Prop
  | .int i, _, v => v = .int i
  | .lst ds, H, v => ∃ p xs Hm, v = .ref p ∧ H0 p = none ∧ H p = some (.lst xs) ∧ (Same Hm H ∧ Hm p = none) ∧ AtAll H0 ds Hm xs
  | .tup ds, H, v => ∃ p xs Hm, v = .ref p ∧ H0 p = none ∧ H p = some (.tup xs) ∧ (Same Hm H ∧ Hm p = none) ∧ AtAll H0 ds Hm xs
def AtAll (H0 : Hp) : List Lt → Hp → List V → Prop
  | [], _, xs => xs = []
  | d :: ds, H, xs => ∃ x ys, xs = x :: ys ∧ At H0 d H x ∧ AtAll H0 ds H ys
end
mutual
theorem At.mono {H0 H1 : Hp} (e0 : Same H0 H1) : ∀ {d : Lt} {H H' : Hp} {v : V}, Same H H' → At H1 d H v → At H0 d H' v
  | .int i, _, _, _, _, h => h
  | .lst ds, _, _, _, e, h => by
    obtain ⟨p, xs, Hm, e1, e2, e3, e4, e5⟩ := h
    exact ⟨p, xs, Hm, e1, Same.none e0 e2, e _ _ e3, ⟨e4.1.trans e, e4.2⟩, AtAll.mono e0 (Same.refl _) e5⟩
  | .tup ds, _, _, _, e, h => by
    obtain ⟨p, xs, Hm, e1, e2, e3, e4, e5⟩ := h
    exact ⟨p, xs, Hm, e1, Same.none e0 e2, e _ _ e3, ⟨e4.1.trans e, e4.2⟩, AtAll.mono e0 (Same.refl _) e5⟩
theorem AtAll.mono {H0 H1 : Hp} (e0 : Same H0 H1) : ∀ {ds : List Lt} {H H' : Hp} {xs : List V}, Same H H' → AtAll H1 ds H xs → AtAll H0 ds H' xs
  | [], _, _, _, _, h => h
  | d :: ds, _, _, _, e, h => by
    obtain ⟨x, ys, e1, e2, e3⟩ := h
    exact ⟨x, ys, e1, At.mono e0 e e2, AtAll.mono e0 e e3⟩
end
theorem AtAll.len {H0 : Hp} : ∀ {ds : List Lt} {H : Hp} {xs : List V}, AtAll H0 ds H xs → xs.length = ds.length
  | [], _, _, h => by have h : _ = [] := h; rw [h] <;> rfl
  | d :: ds, _, _, h => by
    obtain ⟨x, ys, e1, _, e3⟩ := h
    rw [e1, List.length_cons, List.length_cons, AtAll.len e3]
def tL (d : Lt) : TE := fun _ H Q => ∀ H' v, Same H H' → At H d H' v → Q v H'
def tLs (ds : List Lt) : TA := fun _ H Q => ∀ H' xs, Same H H' → AtAll H ds H' xs → Q xs H'
section
variable {X : Cx} {e : Expr} {es : List Expr} {d : Lt} {ds : List Lt}
theorem pe_weak {t t' : TE} (h : PE X e t) (w : ∀ σ H Q, t' σ H Q → t σ H Q) : PE X e t' := ⟨fun pins s σ H Q I q => h.run pins s σ H Q I (w σ H Q q)⟩
theorem pa_weak {t t' : TA} (h : PA X es t) (w : ∀ σ H Q, t' σ H Q → t σ H Q) : PA X es t' := ⟨fun pos pins s σ H Q I q => h.run pos pins s σ H Q I (w σ H Q q)⟩
theorem pl_int {i : Int} {j pos} : PE X (.Constant (.int i) j pos) (tL (.int i)) := pe_weak pe_int fun σ H Q h => h H _ (Same.refl _) rfl
theorem pal_nil : PA X [] (tLs []) := pa_weak pa_nil fun σ H Q h => h H [] (Same.refl _) rfl
theorem pal_cons (ha : PE X e (tL d)) (hr : PA X es (tLs ds)) (hs : starEach (e :: es) X.env = (false, eval e X.env) :: starEach es X.env := by rfl) : PA X (e :: es) (tLs (d :: ds)) :=
  pa_weak (pa_cons ha hr hs) fun σ H Q h => fun H1 x s1 a1 H2 xs s2 a2 => h H2 (x :: xs) (s1.trans s2) ⟨x, xs, rfl, At.mono (Same.refl _) s2 a1, AtAll.mono s1 (Same.refl _) a2⟩
theorem pl_lst {x1} (h : PA X es (tLs ds)) (hz : ds.length ≤ 1000) : PE X (.List es x1) (tL (.lst ds)) :=
  pe_weak (pe_lst h) fun σ H Q q => fun H1 xs s1 a1 => ⟨by rw [a1.len, sizeLine_eq]; omega, fun p hp => q _ _ (Same.up s1 hp) ⟨p, xs, H1, rfl, Same.none s1 hp, upd_same, ⟨same_new hp, hp⟩, a1⟩⟩
theorem pl_tup {x1 x2} (h : PA X es (tLs ds)) (hz : ds.length ≤ 1000) : PE X (.Tuple es x1 x2) (tL (.tup ds)) :=
  pe_weak (pe_tup h) fun σ H Q q => fun H1 xs s1 a1 => ⟨by rw [a1.len, sizeLine_eq]; omega, fun p hp => q _ _ (Same.up s1 hp) ⟨p, xs, H1, rfl, Same.none s1 hp, upd_same, ⟨same_new hp, hp⟩, a1⟩⟩
end
/-! ### machines as lists -/
/-- a list of lists of small ints, none at p -/
def RL (H : Hp) (p a : Addr) (st : List (List Nat)) : Prop := a ≠ p ∧ ∃ bs : List Addr, H a = some (.lst (bs.map V.ref)) ∧ Paired (fun b (r : List Nat) => b ≠ p ∧ H b = some (.lst ((toI r).map V.int))) bs st
/-- the told machine at t: a pair of rows and ends -/
def TA (H : Hp) (p t : Addr) (v : View) : Prop := t ≠ p ∧ ∃ a e, H t = some (.tup [.ref a, .ref e]) ∧ RL H p a v.1 ∧ e ≠ p ∧ H e = some (.lst ((toI v.2).map V.int))
section
variable {H H' : Hp} {p a t : Addr} {st : List (List Nat)} {v : View}
theorem RL.but (h : RL H p a st) (e : But p H H') : RL H' p a st := let ⟨h1, bs, h2, h3⟩ := h; ⟨h1, bs, e _ _ h1 h2, Paired.mono h3 fun _ _ q => ⟨q.1, e _ _ q.1 q.2⟩⟩
theorem TA.but (h : TA H p t v) (e : But p H H') : TA H' p t v := let ⟨h1, a, x, h2, h3, h4, h5⟩ := h; ⟨h1, a, x, e _ _ h1 h2, h3.but e, h4, e _ _ h4 h5⟩
theorem But.of (e : Same H H') : But p H H' := fun q o _ h => e q o h
theorem But.trans {H'' : Hp} (e : But p H H') (f : But p H' H'') : But p H H'' := fun q o n h => f q o n (e q o n h)
theorem TA.mono (h : TA H p t v) (e : Same H H') : TA H' p t v := h.but (But.of e)
theorem RL.mono (h : RL H p a st) (e : Same H H') : RL H' p a st := h.but (But.of e)
theorem Pot.mono (h : Pot H p) (e : Same H H') : Pot H' p := let ⟨x, y, h1, h2, h3, h4⟩ := h; ⟨x, y, h1, h2, h3, e _ _ h4⟩
theorem rl_aux {K : PySem.W.Frag} : ∀ {bs : List Addr} {st : List (List Nat)}, Paired (fun b (r : List Nat) => b ≠ p ∧ H b = some (.lst ((toI r).map V.int))) bs st → Paired (fun b (r : List Int) => Sq K H b (r.map V.int)) bs (toR st)
  | _, _, .nil => .nil
  | _, _, .cons q t => .cons (.inl (SqL.of q.2)) (rl_aux t)
theorem RL.rows {K : PySem.W.Frag} (h : RL H p a st) : Rows K H a (toR st) := let ⟨_, bs, h2, h3⟩ := h; ⟨bs, .inl (SqL.of h2), rl_aux h3⟩
end
def ltI (ns : List Nat) : Lt := .lst (ns.map fun n => .int (n : Nat))
def ltV (v : View) : Lt := .tup [.lst (v.1.map ltI), ltI v.2]
theorem at_ints {H0 H : Hp} : ∀ {ns : List Nat} {xs : List V}, AtAll H0 (ns.map fun n => Lt.int (n : Nat)) H xs → xs = (toI ns).map V.int
  | [], _, h => h
  | n :: ns, _, h => by
    obtain ⟨x, ys, rfl, e2, e3⟩ := h
    have e2 : x = V.int (n : Nat) := e2
    rw [e2, at_ints e3] <;> rfl
theorem at_rows {H0 H : Hp} {p : Addr} (hp : H0 p ≠ none) : ∀ {st : List (List Nat)} {xs : List V}, AtAll H0 (st.map ltI) H xs → ∃ bs : List Addr, xs = bs.map V.ref ∧ Paired (fun b (r : List Nat) => b ≠ p ∧ H b = some (.lst ((toI r).map V.int))) bs st
  | [], _, h => ⟨[], h, .nil⟩
  | r :: st, _, h => by
    obtain ⟨x, ys, rfl, ⟨b, zs, Hm, e1, e2, e3, _, e4⟩, h3⟩ := h
    obtain ⟨bs, rfl, hP⟩ := at_rows hp h3
    exact ⟨b :: bs, by rw [e1] <;> rfl, .cons ⟨fun z => hp (by rw [← z]; exact e2), by rw [e3, at_ints e4]⟩ hP⟩
theorem at_view {H0 H : Hp} {p : Addr} (hp : H0 p ≠ none) {v : View} {x : V} (h : At H0 (ltV v) H x) : ∃ t, x = .ref t ∧ TA H p t v := by
  obtain ⟨t, xs, Hm, rfl, h1, h2, hm, h⟩ := h
  obtain ⟨y, ys, rfl, ⟨a, zs, Hm2, rfl, g1, g2, gm, g3⟩, y2, ys2, rfl, ⟨e, ws, Hm3, rfl, g4, g5, _, g6⟩, h6⟩ := AtAll.mono (Same.refl _) hm.1 h
  have g3 := AtAll.mono (Same.refl _) gm.1 g3
  have h6 : ys2 = [] := h6
  subst h6
  obtain ⟨bs, rfl, hP⟩ := at_rows hp g3
  exact ⟨t, rfl, fun z => hp (by rw [← z]; exact h1), a, e, h2, ⟨fun z => hp (by rw [← z]; exact g1), bs, g2, hP⟩, fun z => hp (by rw [← z]; exact g4), by rw [g5, at_ints g6]⟩
/-! ### _law_pick -/
section
variable {P : Program} {w : World} {K : PySem.W.Frag} {mg : Str → Option Value} {base : Heap}
theorem SqL.but {K : PySem.W.Frag} {H H' : Hp} {p a : Addr} {xs : List V} (h : SqL K H a xs) (e : But p H H') (n : a ≠ p) : SqL K H' a xs := SqL.stood h fun o q => e _ _ n q
def spPick (K : PySem.W.Frag) : Sp := fun vs H Q _ => ∃ (p a : Addr) (xs : List V), vs = [.ref p, .ref a] ∧ Pot H p ∧ SqL K H a xs ∧ a ≠ p ∧ 1 ≤ xs.length ∧ xs.length ≤ 1000 ∧ ∀ (v : V) H', v ∈ xs → ButP p H H' → Q v H'
theorem scPick : FnScope ["_law_pot_here", "_law_some"] ["_law_pot_here", "_law_some"] (defScope (top 58)) := ⟨rfl, rfl, rfl, by decide +kernel, rfl, by decide +kernel, by decide +kernel⟩
theorem c_pick (T : Txt K mg) : Cal P w K mg base 2 "_law_pick" ["_law_pot_here", "_law_some"] (spPick K) := by
  refine cal (top 58) T 33 31 rfl rfl scPick (fun _ _ _ _ _ _ us hl => match us, hl with | [_, _], _ => rfl) (fun vs H Q E h => ?_) (fun cdv A outer s H vs Q E hr h => ?_)
  · obtain ⟨p, a, xs, rfl, _⟩ := h
    rfl
  · obtain ⟨p, a, xs, rfl, hP, hA, na, l1, l2, k⟩ := h
    refine ⟨_, pss_one (ps_ret (pe_ix ix_sq (pv 1) (pe_c (c_draw T) hr (by decide) (pa_cons (pv 0) (pa_cons (pe_callB call_len_seq (by rfl) (T.f 0 rfl) boot_len (pa_cons (pv 1) pa_nil)) pa_nil))) (fun _ _ => rfl))), ?_⟩
    refine ⟨_, rfl, _, rfl, _, rfl, a, _, rfl, .inl hA, p, xs.length, rfl, hP, l1, l2, fun d H' hd hB => ?_⟩
    exact ⟨a, _, _, xs[d], rfl, rfl, .inl (SqL.but hA hB.1 na), atI_nat (List.getElem?_eq_getElem hd), k _ H' (List.getElem_mem hd) hB⟩
/-! ### _law_drawn -/
theorem atI_last {α : Type} {xs : List α} {x : α} : atI (xs ++ [x]) (-1) = some x := by
  unfold atI ixN
  rw [if_neg (by decide), if_pos (by rw [List.length_append, List.length_singleton]; omega)]
  show (xs ++ [x])[((-1 : Int) + ((xs ++ [x]).length : Nat)).toNat]? = some x
  have e : ((-1 : Int) + ((xs ++ [x]).length : Nat)).toNat = xs.length := by rw [List.length_append, List.length_singleton]; omega
  rw [e]
  simp
theorem but_mut {H H' : Hp} {p a : Addr} {o : HO} (e : But p H H') (h : H a = none) : But p H (upd H' a o) := fun q u n hq => by
  rw [upd_ne (ne_of_none hq h)]
  exact e q u n hq
theorem But.none {H H' : Hp} {p a : Addr} (e : But p H H') (hp : H' p ≠ Option.none) (h : H' a = Option.none) : H a = Option.none := by
  cases q : H a with
  | none => rfl
  | some o =>
    have := e a o (fun z => hp (by rw [← z]; exact h)) q
    rw [h] at this
    cases this
theorem But.some {H H' : Hp} {p a : Addr} (e : But p H H') (hp : H' p ≠ Option.none) (h : H a ≠ Option.none) : H' a ≠ Option.none := fun z => h (But.none e hp z)
/-- the loop's state -/
structure DS (H0 H : Hp) (p sp ep : Addr) (bs : List Addr) (st : List (List Nat)) (en : List Nat) : Prop where
  but : But p H0 H
  pot : Pot H p
  s : H sp = some (.lst (bs.map V.ref))
  e : H ep = some (.lst ((toI en).map V.int))
  sp0 : H0 sp = none
  ep0 : H0 ep = none
  se : sp ≠ ep
  sp' : sp ≠ p
  ep' : ep ≠ p
  rows : Paired (fun b (r : List Nat) => (b ≠ p ∧ b ≠ sp ∧ b ≠ ep ∧ H0 b = none) ∧ H b = some (.lst ((toI r).map V.int))) bs st
section
variable {H0 H H' : Hp} {p sp ep b : Addr} {bs : List Addr} {st : List (List Nat)} {en : List Nat} {r : List Nat}
theorem DS.draw (D : DS H0 H p sp ep bs st en) (h : ButP p H H') : DS H0 H' p sp ep bs st en :=
  ⟨D.but.trans h.1, h.2, h.1 _ _ D.sp' D.s, h.1 _ _ D.ep' D.e, D.sp0, D.ep0, D.se, D.sp', D.ep', Paired.mono D.rows fun _ _ q => ⟨q.1, h.1 _ _ q.1.1 q.2⟩⟩
theorem DS.mono (D : DS H0 H p sp ep bs st en) (e : Same H H') : DS H0 H' p sp ep bs st en := D.draw ⟨But.of e, D.pot.mono e⟩
theorem Pot.upd {a : Addr} {o : HO} (h : Pot H p) (n : p ≠ a) : Pot (upd H a o) p := by
  obtain ⟨x, y, h1, h2, h3, h4⟩ := h
  exact ⟨x, y, h1, h2, h3, by rw [upd_ne n]; exact h4⟩
theorem DS.addRow (D : DS H0 H p sp ep bs st en) (h1 : b ≠ p ∧ b ≠ sp ∧ b ≠ ep ∧ H0 b = none) (h2 : H b = some (.lst ((toI r).map V.int))) : DS H0 (upd H sp (.lst (bs.map V.ref ++ [V.ref b]))) p sp ep (bs ++ [b]) (st ++ [r]) en :=
  ⟨but_mut D.but D.sp0, D.pot.upd D.sp'.symm, by rw [upd_same, List.map_append] <;> rfl, by rw [upd_ne D.se.symm]; exact D.e, D.sp0, D.ep0, D.se, D.sp', D.ep',
    Paired.snoc (Paired.mono D.rows fun _ _ q => ⟨q.1, by rw [upd_ne q.1.2.1]; exact q.2⟩) ⟨h1, by rw [upd_ne h1.2.1]; exact h2⟩⟩
theorem DS.setLast {r' : List Nat} (D : DS H0 H p sp ep (bs ++ [b]) (st ++ [r]) en) (l : bs.length = st.length) (hn : ∀ c ∈ bs, c ≠ b) : DS H0 (L2.upd H b (.lst ((toI r').map V.int))) p sp ep (bs ++ [b]) (st ++ [r']) en := by
  obtain ⟨hb, _⟩ : (b ≠ p ∧ b ≠ sp ∧ b ≠ ep ∧ H0 b = none) ∧ True := by
    obtain ⟨r2, _, h2⟩ := Paired.get D.rows (i := bs.length) (a := b) (by simp)
    exact ⟨h2.1, trivial⟩
  refine ⟨but_mut D.but hb.2.2.2, D.pot.upd hb.1.symm, by rw [upd_ne hb.2.1.symm]; exact D.s, by rw [upd_ne hb.2.2.1.symm]; exact D.e, D.sp0, D.ep0, D.se, D.sp', D.ep', Paired.snoc (paired_of_get l fun i c r1 hc hr => ?_) ⟨hb, upd_same⟩⟩
  obtain ⟨r2, e2, h2⟩ := Paired.get D.rows (i := i) (a := c) (by rw [List.getElem?_append_left (List.getElem?_eq_some_iff.mp hc).1]; exact hc)
  rw [List.getElem?_append_left (List.getElem?_eq_some_iff.mp hr).1, hr] at e2
  obtain rfl := Option.some.inj e2
  exact ⟨h2.1, by rw [upd_ne (hn c (List.mem_of_getElem? hc))]; exact h2.2⟩
theorem DS.addEnd {en' : List Nat} (D : DS H0 H p sp ep bs st en) : DS H0 (L2.upd H ep (.lst ((toI en').map V.int))) p sp ep bs st en' :=
  ⟨but_mut D.but D.ep0, D.pot.upd D.ep'.symm, by rw [upd_ne D.se]; exact D.s, upd_same, D.sp0, D.ep0, D.se, D.sp', D.ep', Paired.mono D.rows fun _ _ q => ⟨q.1, by rw [upd_ne q.1.2.2.1]; exact q.2⟩⟩
end
theorem filter_ext_at {f : Nat → Bool} {i : Nat} {c : Bool} : (List.range (i + 1)).filter (fun j => if j = i then c else f j) = (List.range i).filter f ++ if c = true then [i] else [] := by
  rw [List.range_succ, List.filter_append]
  have e1 : (List.range i).filter (fun j => if j = i then c else f j) = (List.range i).filter f := List.filter_congr fun j hj => by
    rw [if_neg (by have := List.mem_range.mp hj; omega)]
  rw [e1]
  congr 1
  cases c
  · simp
  · simp
/-- two rows of two, and ends -/
def Drawn (v : View) : Prop := ∃ a b c d : Nat, a < 2 ∧ b < 2 ∧ c < 2 ∧ d < 2 ∧ v.1 = [[a, b], [c, d]] ∧ (v.2 = [] ∨ v.2 = [0] ∨ v.2 = [1] ∨ v.2 = [0, 1])
def spDrawn : Sp := fun vs H Q _ => ∃ (p : Addr), vs = [.ref p] ∧ Pot H p ∧ ∀ H' t v, ButP p H H' → TA H' p t v → (∀ q, H q ≠ none → TA H' q t v) → Drawn v → Q (.ref t) H'
abbrev nmDrawn : List Str := ["_law_pot_here", "_law_many", "_law_steps", "_law_ends", "_law_state"]
theorem scDrawn : FnScope nmDrawn ["_law_pot_here"] (defScope sDrawn) := ⟨rfl, rfl, rfl, by decide +kernel, rfl, by decide +kernel, by decide +kernel⟩
theorem c_drawn (T : Txt K mg) : Cal P w K mg base 2 "_law_drawn" ["_law_pot_here"] spDrawn := by
  refine cal sDrawn T 35 33 rfl rfl scDrawn (fun _ _ _ _ _ _ us hl => match us, hl with | [_], _ => rfl) (fun vs H Q E h => ?_) (fun cdv A outer s H vs Q E hr h => ?_)
  · obtain ⟨p, rfl, _⟩ := h
    rfl
  · obtain ⟨p, rfl, hP, k⟩ := h
    have nd := scDrawn.nd
    refine ⟨_, pss_cons (ps_par3 (i := 1) (j := 2) (l := 3) rfl nd rfl rfl rfl (by decide) (by decide) (by decide) rfl rfl rfl (pa_cons pe_int (pa_cons (pe_lst pa_nil) (pa_cons (pe_lst pa_nil) pa_nil))) (by rfl))
      (pss_cons (ps_for PassesOwn.never rfl (pi_range1 rfl (T.f 12 rfl) (pa_cons (pv 1) pa_nil)) (pg_name (i := 4) nd rfl (Or.inl rfl))
        (pss_cons (ps_expr (pe_bm PySem.F.plainAttrs_list PySem.F.slot_list_append PySem.F.type_list_append mt_append (pv 2) (pa_cons (pe_lst (pa_cons (pe_c (c_draw T) hr (by decide) (pa_cons (pv 0) (pa_cons (pv 1) pa_nil))) pa_nil)) pa_nil)))
        (pss_cons (ps_expr (pe_bm PySem.F.plainAttrs_list PySem.F.slot_list_append PySem.F.type_list_append mt_append (pe_ix ix_list (pv 2) (pe_un un_neg pe_int) (fun _ _ => rfl)) (pa_cons (pe_c (c_draw T) hr (by decide) (pa_cons (pv 0) (pa_cons (pv 1) pa_nil))) pa_nil)))
        (pss_one (ps_if (pt_cmpR op_eq (pe_c (c_draw T) hr (by decide) (pa_cons (pv 0) (pa_cons pe_int pa_nil))) pe_int (nomark _)) (pss_one (ps_expr (pe_bm PySem.F.plainAttrs_list PySem.F.slot_list_append PySem.F.type_list_append mt_append (pv 3) (pa_cons (pv 4) pa_nil)))) pss_nil)))))
      (pss_one (ps_ret (pe_tup (pa_cons (pv 2) (pa_cons (pv 3) pa_nil)))))), ?_⟩
    refine ⟨by show 0 ≤ sizeLine; decide, fun sp hsp => ⟨by show 0 ≤ sizeLine; decide, fun ep hep => ⟨_, _, _, rfl, ?_⟩⟩⟩
    have q1 : Same H (upd H sp (.lst [])) := same_new hsp
    have q2 := Same.up (o := HO.lst []) q1 hep
    obtain ⟨pa, pb, _, _, _, hpp⟩ := id hP
    have D0 : DS H (upd (upd H sp (.lst [])) ep (.lst [])) p sp ep [] [] [] :=
      ⟨But.of q2, hP.mono q2, by rw [upd_ne (ne_of_none upd_same hep)]; exact upd_same, upd_same, hsp, Same.none q1 hep, ne_of_none upd_same hep, (ne_of_none hpp hsp).symm, (ne_of_none (q1 _ _ hpp) hep).symm, .nil⟩
    refine ⟨_, rfl, (2 : Int), rfl, by decide, by decide, ?_⟩
    refine for_it (walk_range (lo := 0) (n := 2)) (fun i σ' H' => ∃ v4 bs st en, σ' = [some (.ref p), some (.int 2), some (.ref sp), some (.ref ep), v4] ∧ DS H H' p sp ep bs st en ∧ st.length = i ∧ (∀ r ∈ st, ∃ a b : Nat, a < 2 ∧ b < 2 ∧ r = [a, b]) ∧ ∃ f : Nat → Bool, en = (List.range i).filter f) ⟨none, [], [], [], rfl, D0, rfl, (fun r hr => nomatch hr), fun _ => false, rfl⟩ (fun _ _ _ _ _ => trivial) ?_ ?_
    · rintro i x σ' _ H4 hi ⟨v4, bs, st, en, rfl, D, ls, two, f, hf⟩ ⟨rfl, rfl⟩
      have lb : bs.length = st.length := Paired.len D.rows
      have lbi : bs.length = i := lb.trans ls
      have lei : en.length ≤ i := by
        rw [hf]
        have := List.length_filter_le f (List.range i)
        rwa [List.length_range] at this
      refine ⟨_, rfl, .inl ⟨rfl, _, SqL.of D.s⟩, _, rfl, _, rfl, p, 2, rfl, D.pot, by decide, by decide, fun d1 H5 hd1 hB5 => ⟨by show 1 ≤ sizeLine; decide, fun b hb => ⟨sp, _, _, rfl, rfl, ((D.draw hB5).mono (same_new hb)).s, by rw [List.length_map, lbi, sizeLine_eq]; omega, ?_⟩⟩⟩
      have D5 := D.draw hB5
      have D6 := D5.mono (same_new (o := .lst [V.int (d1 : Int)]) hb)
      have h6 : (upd H5 b (.lst [V.int (d1 : Int)])) b = some (.lst ((toI [d1]).map V.int)) := upd_same
      obtain ⟨pa5, pb5, _, _, _, hp5⟩ := D5.pot
      have hbn : H b = none := But.none D5.but (by rw [hp5]; exact fun z => nomatch z) hb
      have nb : b ≠ p ∧ b ≠ sp ∧ b ≠ ep ∧ H b = none := ⟨(ne_of_none hp5 hb).symm, (ne_of_none D5.s hb).symm, (ne_of_none D5.e hb).symm, hbn⟩
      have nbs : ∀ c ∈ bs, c ≠ b := fun c hc => by
        obtain ⟨j, hj⟩ := List.mem_iff_getElem?.mp hc
        obtain ⟨r, _, h2⟩ := Paired.get D5.rows hj
        exact ne_of_none h2.2 hb
      have D7 := D6.addRow nb h6
      have hb7 : (upd (upd H5 b (.lst [V.int (d1 : Int)])) sp (.lst (bs.map V.ref ++ [V.ref b]))) b = some (.lst ((toI [d1]).map V.int)) := by rw [upd_ne nb.2.1]; exact h6
      have eL : atI (bs.map V.ref ++ [V.ref b]) (-1) = some (.ref b) := atI_last
      have hs7 : (upd (upd H5 b (.lst [V.int (d1 : Int)])) sp (.lst (bs.map V.ref ++ [V.ref b]))) sp = some (.lst (bs.map V.ref ++ [V.ref b])) := upd_same
      generalize upd (upd H5 b (.lst [V.int (d1 : Int)])) sp (.lst (bs.map V.ref ++ [V.ref b])) = H7 at D7 hb7 hs7 ⊢
      refine ⟨_, rfl, _, rfl, sp, _, _, _, rfl, rfl, SqL.of hs7, eL, .inl ⟨rfl, _, SqL.of hb7⟩, _, rfl, _, rfl, p, 2, rfl, D7.pot, by decide, by decide, fun d2 H8 hd2 hB8 => ?_⟩
      have D8 := D7.draw hB8
      have hb8 := hB8.1 _ _ nb.1 hb7
      refine ⟨b, _, _, rfl, rfl, hb8, by show 1 < sizeLine; rw [sizeLine_eq]; decide, ?_⟩
      have D9 := D8.setLast (r' := [d1, d2]) lb nbs
      have e9 : (toI [d1]).map V.int ++ [V.int (d2 : Int)] = (toI [d1, d2]).map V.int := rfl
      rw [e9]
      generalize upd H8 b (.lst ((toI [d1, d2]).map V.int)) = H9 at D9 ⊢
      refine ⟨_, rfl, p, 2, rfl, D9.pot, by decide, by decide, fun d3 H10 hd3 hB10 => ?_⟩
      have D10 := D9.draw hB10
      have two' : ∀ r ∈ st ++ [[d1, d2]], ∃ a b : Nat, a < 2 ∧ b < 2 ∧ r = [a, b] := fun r hr => by
        rcases List.mem_append.mp hr with z | z
        · exact two r z
        · exact ⟨d1, d2, hd1, hd2, List.mem_singleton.mp z⟩
      have len' : (st ++ [[d1, d2]]).length = i + 1 := by rw [List.length_append, ls] <;> rfl
      refine ⟨rfl, _, rfl, ?_⟩
      refine ite2 (fun c => ?_) (fun c => ?_)
      · refine ⟨_, rfl, .inl ⟨rfl, _, SqL.of D10.e⟩, _, rfl, ep, _, _, rfl, rfl, D10.e, by rw [ivs_len, sizeLine_eq]; omega, ?_⟩
        have D11 := D10.addEnd (en' := en ++ [i])
        refine ⟨_, bs ++ [b], st ++ [[d1, d2]], en ++ [i], rfl, ?_, len', two', fun j => if j = i then true else f j, ?_⟩
        · have e11 : (toI en).map V.int ++ [V.int (0 + (i : Int))] = (toI (en ++ [i])).map V.int := by
            rw [Int.zero_add, ivs_snoc]
          rw [e11]
          exact D11
        · rw [hf, filter_ext_at, if_pos rfl]
      · refine ⟨_, bs ++ [b], st ++ [[d1, d2]], en, rfl, D10, len', two', fun j => if j = i then false else f j, ?_⟩
        rw [hf, filter_ext_at, if_neg (by decide), List.append_nil]
    rintro σ' H4 ⟨v4, bs, st, en, rfl, D, ls, two, f, hf⟩
    refine ⟨_, rfl, _, rfl, by show 2 ≤ sizeLine; decide, fun t ht => ?_⟩
    have s5 : Same H4 (upd H4 t (.tup [V.ref sp, V.ref ep])) := same_new ht
    have D5 := D.mono s5
    obtain ⟨pa5, pb5, _, _, _, hp5⟩ := D.pot
    refine k _ t (st, en) ⟨D5.but, D5.pot⟩ ⟨(ne_of_none hp5 ht).symm, sp, ep, upd_same, ⟨D.sp', bs, D5.s, Paired.mono D5.rows fun _ _ q => ⟨q.1.1, q.2⟩⟩, D.ep', D5.e⟩ (fun q hq => ⟨fun z => But.some D.but (by rw [hp5]; exact fun z => nomatch z) hq (by rw [← z]; exact ht), sp, ep, upd_same, ⟨fun z => hq (by rw [← z]; exact D.sp0), bs, D5.s, Paired.mono D5.rows fun _ _ y => ⟨fun z => hq (by rw [← z]; exact y.1.2.2.2), y.2⟩⟩, fun z => hq (by rw [← z]; exact D.ep0), D5.e⟩) ?_
    match st, ls with
    | [r1, r2], _ =>
      obtain ⟨x1, x2, h1, h2, rfl⟩ := two r1 List.mem_cons_self
      obtain ⟨x3, x4, h3, h4, rfl⟩ := two r2 (List.mem_cons_of_mem _ List.mem_cons_self)
      refine ⟨x1, x2, x3, x4, h1, h2, h3, h4, rfl, ?_⟩
      show en = [] ∨ en = [0] ∨ en = [1] ∨ en = [0, 1]
      have e2 : List.range 2 = [0, 1] := rfl
      rw [hf, e2]
      cases f0 : f 0 <;> cases f1 : f 1 <;> simp [f0, f1]
end
end K81
end
section
set_option Elab.async false
set_option maxRecDepth 100000
set_option maxHeartbeats 4000000
set_option linter.all false
set_option pp.maxSteps 1500
set_option pp.deepTerms false
/-! the law's machines -/
namespace K81
open PySem PySem.Spec PyProof.Rows L2 K81M NdefX LamX
def told0 : List View := [([[1, 0], [0, 1]], [0]), ([[1, 0], [0, 1]], [1]), ([[1, 0], [1, 0]], [1])]
def told1 : List View := [([[0, 1], [1, 1]], [1]), ([[0, 1], [1, 1]], [0]), ([[0, 0]], [0]), ([[0, 0]], [])]
def told2 : List View := [([[1, 1], [1, 1]], [0]), ([[1, 2], [2, 2], [2, 2]], [1])]
def told3 : List View := [([[1, 1], [2, 2], [0, 0]], [0]), ([[1, 2], [2, 3], [2, 2], [2, 2]], [0, 3])]
def toldB : List View := told0 ++ told1 ++ told2 ++ told3
def cutW (m : Nat) (v : View) : View := (v.1.map (List.take m), v.2)
theorem at_views {H0 H : Hp} {p : Addr} (hp : H0 p ≠ none) : ∀ {vs : List View} {xs : List V}, AtAll H0 (vs.map ltV) H xs → Paired (fun x v => ∃ t, x = V.ref t ∧ TA H p t v) xs vs
  | [], _, h => by have h : _ = [] := h; rw [h]; exact .nil
  | v :: vs, _, h => by
    obtain ⟨x, ys, rfl, h2, h3⟩ := h
    exact .cons (at_view hp h2) (at_views hp h3)
theorem paired_app {A B : Type} {F : A → B → Prop} : ∀ {l1 l3 : List A} {l2 l4 : List B}, Paired F l1 l2 → Paired F l3 l4 → Paired F (l1 ++ l3) (l2 ++ l4)
  | _, _, _, _, .nil, h => h
  | _, _, _, _, .cons q t, h => .cons q (paired_app t h)
section
variable {P : Program} {w : World} {K : PySem.W.Frag} {mg : Str → Option Value} {base : Heap}
theorem paired_both {A B : Type} {F G : A → B → Prop} : ∀ {l1 : List A} {l2 : List B}, Paired F l1 l2 → Paired G l1 l2 → Paired (fun a b => F a b ∧ G a b) l1 l2
  | _, _, .nil, _ => .nil
  | _, _, .cons h t, .cons h' t' => .cons ⟨h, h'⟩ (paired_both t t')
/-- the told machine at t, apart from p and q -/
def TQ (H0 H : Hp) (q t : Addr) (v : View) : Prop := (∀ p, H0 p ≠ none → TA H p t v) ∧ TA H q t v
theorem refs_inj {bs bs' : List Addr} (h : bs.map V.ref = bs'.map V.ref) : bs = bs' := (List.map_inj_right (fun a b e => V.ref.inj e)).mp h
theorem TA.but2 {H H' : Hp} {p q t : Addr} {v : View} (h1 : TA H p t v) (h2 : TA H q t v) (e : But q H H') : TA H' p t v := by
  obtain ⟨n1, a, x, g1, ⟨n2, bs, g2, g3⟩, n3, g4⟩ := h1
  obtain ⟨n1', a', x', g1', ⟨n2', bs', g2', g3'⟩, n3', g4'⟩ := h2
  rw [g1] at g1'
  injection g1' with z
  injection z with z
  injection z with z1 z2
  injection z1 with z1
  injection z2 with z2 _
  injection z2 with z2
  subst z1 z2
  rw [g2] at g2'
  injection g2' with z
  injection z with z
  obtain rfl := refs_inj z
  exact ⟨n1, a, x, e _ _ n1' g1, ⟨n2, bs, e _ _ n2' g2, Paired.mono (paired_both g3 g3') fun _ _ y => ⟨y.1.1, e _ _ y.2.1 y.1.2⟩⟩, n3, e _ _ n3' g4⟩
theorem TQ.butq {H0 H H' : Hp} {q t : Addr} {v : View} (h : TQ H0 H q t v) (e : But q H H') : TQ H0 H' q t v := ⟨fun p hp => (h.1 p hp).but2 h.2 e, h.2.but e⟩
theorem TQ.mono {H0 H H' : Hp} {q t : Addr} {v : View} (h : TQ H0 H q t v) (e : Same H H') : TQ H0 H' q t v := ⟨fun p hp => (h.1 p hp).mono e, h.2.mono e⟩
theorem TA.at_none {H : Hp} {p q t : Addr} {v : View} (h : TA H p t v) (hq : H q = none) : TA H q t v := by
  obtain ⟨n1, a, x, g1, ⟨n2, bs, g2, g3⟩, n3, g4⟩ := h
  exact ⟨ne_of_none g1 hq, a, x, g1, ⟨ne_of_none g2 hq, bs, g2, Paired.mono g3 fun _ _ y => ⟨ne_of_none y.2 hq, y.2⟩⟩, ne_of_none g4 hq, g4⟩
abbrev Its (H0 H : Hp) (q : Addr) (xs : List V) (vs : List View) : Prop := Paired (fun x v => ∃ t, x = V.ref t ∧ TQ H0 H q t v) xs vs
theorem at_viewsA {H0 H : Hp} {q0 : Addr} (h0 : H0 q0 ≠ none) {vs : List View} {xs : List V} (h : AtAll H0 (vs.map ltV) H xs) : Paired (fun x v => ∃ t, x = V.ref t ∧ ∀ p, H0 p ≠ none → TA H p t v) xs vs := by
  refine paired_of_get (Paired.len (at_views h0 h)) fun i x v hx hv => ?_
  obtain ⟨v1, e1, t, et, _⟩ := Paired.get (at_views h0 h) hx
  refine ⟨t, et, fun p hp => ?_⟩
  obtain ⟨v2, e2, t2, et2, h2⟩ := Paired.get (at_views hp h) hx
  rw [hv] at e2
  obtain rfl := Option.some.inj e2
  rw [et] at et2
  injection et2 with et2
  rw [et2]
  exact h2
theorem its_new {Hb H0 H : Hp} {q : Addr} (hb : ∀ p, Hb p ≠ none → H0 p ≠ none) (hq : H0 q ≠ none) {vs : List View} {xs : List V} (h : AtAll H0 (vs.map ltV) H xs) : Its Hb H q xs vs :=
  Paired.mono (at_viewsA hq h) fun x v ⟨t, e1, h1⟩ => ⟨t, e1, fun p hp => h1 p (hb p hp), h1 q hq⟩
def spTold : Sp := fun vs H Q _ => ∃ (p : Addr) (m : Nat), vs = [.ref p, .int (m : Int)] ∧ Pot H p ∧ 1 ≤ m ∧ m ≤ 2 ∧ ∀ H' t v, ButP p H H' → TA H' p t (cutW m v) → (∀ q, H q ≠ none → TA H' q t (cutW m v)) → (v ∈ toldB ∨ Drawn v) → Q (.ref t) H'
abbrev nmTold : List Str := ["_law_pot_here", "_law_letters", "_law_some", "_law_way", "_law_steps", "_law_ends", "_law_row"]
theorem scTold : FnScope nmTold ["_law_pot_here", "_law_letters"] (defScope (top 59)) := ⟨rfl, rfl, rfl, by decide +kernel, rfl, by decide +kernel, by decide +kernel⟩
theorem sl_listk {X : Cx} (hK : X.K = K) : SlR X (rSlL K) := by subst hK; exact sl_list
theorem c_told (T : Txt K mg) : Cal P w K mg base 3 "_law_told" ["_law_pot_here", "_law_letters"] spTold := by
  refine cal (top 59) T 34 32 rfl rfl scTold (fun _ _ _ _ _ _ us hl => match us, hl with | [_, _], _ => rfl) (fun vs H Q E h => ?_) (fun cdv A outer s H vs Q E hr h => ?_)
  · obtain ⟨p, m, rfl, _⟩ := h
    rfl
  · obtain ⟨p, m, rfl, hP, m1, m2, k⟩ := h
    have nd := scTold.nd
    refine ⟨_, pss_cons (ps_set (i := 2) nd rfl (Or.inl rfl) (pl_lst (pal_cons (pl_tup (pal_cons (pl_lst (pal_cons (pl_lst (pal_cons pl_int (pal_cons pl_int pal_nil)) (by decide)) (pal_cons (pl_lst (pal_cons pl_int (pal_cons pl_int pal_nil)) (by decide)) pal_nil)) (by decide)) (pal_cons (pl_lst (pal_cons pl_int pal_nil) (by decide)) pal_nil)) (by decide)) (pal_cons (pl_tup (pal_cons (pl_lst (pal_cons (pl_lst (pal_cons pl_int (pal_cons pl_int pal_nil)) (by decide)) (pal_cons (pl_lst (pal_cons pl_int (pal_cons pl_int pal_nil)) (by decide)) pal_nil)) (by decide)) (pal_cons (pl_lst (pal_cons pl_int pal_nil) (by decide)) pal_nil)) (by decide)) (pal_cons (pl_tup (pal_cons (pl_lst (pal_cons (pl_lst (pal_cons pl_int (pal_cons pl_int pal_nil)) (by decide)) (pal_cons (pl_lst (pal_cons pl_int (pal_cons pl_int pal_nil)) (by decide)) pal_nil)) (by decide)) (pal_cons (pl_lst (pal_cons pl_int pal_nil) (by decide)) pal_nil)) (by decide)) pal_nil))) (by decide)))
      (pss_cons (ps_expr (pe_bm PySem.F.plainAttrs_list PySem.F.slot_list_extend PySem.F.type_list_extend mt_extend (pv 2) (pa_cons (pl_lst (pal_cons (pl_tup (pal_cons (pl_lst (pal_cons (pl_lst (pal_cons pl_int (pal_cons pl_int pal_nil)) (by decide)) (pal_cons (pl_lst (pal_cons pl_int (pal_cons pl_int pal_nil)) (by decide)) pal_nil)) (by decide)) (pal_cons (pl_lst (pal_cons pl_int pal_nil) (by decide)) pal_nil)) (by decide)) (pal_cons (pl_tup (pal_cons (pl_lst (pal_cons (pl_lst (pal_cons pl_int (pal_cons pl_int pal_nil)) (by decide)) (pal_cons (pl_lst (pal_cons pl_int (pal_cons pl_int pal_nil)) (by decide)) pal_nil)) (by decide)) (pal_cons (pl_lst (pal_cons pl_int pal_nil) (by decide)) pal_nil)) (by decide)) (pal_cons (pl_tup (pal_cons (pl_lst (pal_cons (pl_lst (pal_cons pl_int (pal_cons pl_int pal_nil)) (by decide)) pal_nil) (by decide)) (pal_cons (pl_lst (pal_cons pl_int pal_nil) (by decide)) pal_nil)) (by decide)) (pal_cons (pl_tup (pal_cons (pl_lst (pal_cons (pl_lst (pal_cons pl_int (pal_cons pl_int pal_nil)) (by decide)) pal_nil) (by decide)) (pal_cons (pl_lst pal_nil (by decide)) pal_nil)) (by decide)) pal_nil)))) (by decide)) pa_nil)))
      (pss_cons (ps_expr (pe_bm PySem.F.plainAttrs_list PySem.F.slot_list_extend PySem.F.type_list_extend mt_extend (pv 2) (pa_cons (pl_lst (pal_cons (pl_tup (pal_cons (pl_lst (pal_cons (pl_lst (pal_cons pl_int (pal_cons pl_int pal_nil)) (by decide)) (pal_cons (pl_lst (pal_cons pl_int (pal_cons pl_int pal_nil)) (by decide)) pal_nil)) (by decide)) (pal_cons (pl_lst (pal_cons pl_int pal_nil) (by decide)) pal_nil)) (by decide)) (pal_cons (pl_tup (pal_cons (pl_lst (pal_cons (pl_lst (pal_cons pl_int (pal_cons pl_int pal_nil)) (by decide)) (pal_cons (pl_lst (pal_cons pl_int (pal_cons pl_int pal_nil)) (by decide)) (pal_cons (pl_lst (pal_cons pl_int (pal_cons pl_int pal_nil)) (by decide)) pal_nil))) (by decide)) (pal_cons (pl_lst (pal_cons pl_int pal_nil) (by decide)) pal_nil)) (by decide)) pal_nil)) (by decide)) pa_nil)))
      (pss_cons (ps_expr (pe_bm PySem.F.plainAttrs_list PySem.F.slot_list_extend PySem.F.type_list_extend mt_extend (pv 2) (pa_cons (pl_lst (pal_cons (pl_tup (pal_cons (pl_lst (pal_cons (pl_lst (pal_cons pl_int (pal_cons pl_int pal_nil)) (by decide)) (pal_cons (pl_lst (pal_cons pl_int (pal_cons pl_int pal_nil)) (by decide)) (pal_cons (pl_lst (pal_cons pl_int (pal_cons pl_int pal_nil)) (by decide)) pal_nil))) (by decide)) (pal_cons (pl_lst (pal_cons pl_int pal_nil) (by decide)) pal_nil)) (by decide)) (pal_cons (pl_tup (pal_cons (pl_lst (pal_cons (pl_lst (pal_cons pl_int (pal_cons pl_int pal_nil)) (by decide)) (pal_cons (pl_lst (pal_cons pl_int (pal_cons pl_int pal_nil)) (by decide)) (pal_cons (pl_lst (pal_cons pl_int (pal_cons pl_int pal_nil)) (by decide)) (pal_cons (pl_lst (pal_cons pl_int (pal_cons pl_int pal_nil)) (by decide)) pal_nil)))) (by decide)) (pal_cons (pl_lst (pal_cons pl_int (pal_cons pl_int pal_nil)) (by decide)) pal_nil)) (by decide)) pal_nil)) (by decide)) pa_nil)))
      (pss_cons (ps_set (i := 3) nd rfl (Or.inl rfl) (pe_c (c_draw T) hr (by decide) (pa_cons (pv 0) (pa_cons (pe_op op_add (pe_callB call_len_seq (by rfl) (T.f 0 rfl) boot_len (pa_cons (pv 2) pa_nil)) pe_int) pa_nil))))
      (C8.pss_cut (ps_asg (pe_ifExp (pt_cmpR op_lt (pv 3) (pe_callB call_len_seq (by rfl) (T.f 0 rfl) boot_len (pa_cons (pv 2) pa_nil)) (nomark _)) (pe_ix ix_sq (pv 2) (pv 3) (fun _ _ => rfl)) (pe_c (c_drawn T) hr (by decide) (pa_cons (pv 0) pa_nil))) (pg_tup rfl (pgs_cons (pg_name (i := 4) nd rfl (Or.inl rfl)) (pgs_cons (pg_name (i := 5) nd rfl (Or.inl rfl)) pgs_nil))))
      (pss_one (ps_ret (pe_tup (pa_cons (pe_lc (own := [("_law_row", 6)]) (g := gName 6) (tt := tYes) rfl nd (pi_list (pv 4)) (blkOk_by (N := nmTold) (sc := defScope (top 59)) (by decide +kernel)) (fun _ _ _ _ _ => pg_name (i := 6) nd rfl (Or.inl rfl)) (fun _ _ _ _ _ => pts_nil)
        (fun _ _ _ _ _ => pe_slice (sl_listk (K := K) rfl) (pv 6) po_none (po_some (pv 1)))) (pa_cons (pv 5) pa_nil)))))))))), ?_⟩
    obtain ⟨pa, pb, pa0, pb0, pb1, hpp⟩ := id hP
    have hp0 : H p ≠ none := by rw [hpp]; exact fun z => nomatch z
    intro H1 v1 s1 a1
    obtain ⟨q, xs0, Hm, rfl, hq0, hq1, hm, a1⟩ := a1
    have W0 : Its H Hm q xs0 told0 := Paired.mono (at_viewsA hp0 (vs := told0) a1) fun x v ⟨t, e, h⟩ => ⟨t, e, h, (h p hp0).at_none hm.2⟩
    have W0 : Its H H1 q xs0 told0 := Paired.mono W0 fun x v ⟨t, e, h⟩ => ⟨t, e, h.mono hm.1⟩
    have P1 := hP.mono s1
    have B1 : But p H H1 := But.of s1
    have nqp : q ≠ p := fun z => hp0 (by rw [← z]; exact hq0)
    clear a1
    -- extend, three times
    refine ⟨_, rfl, .inl ⟨rfl, _, SqL.of hq1⟩, fun H2 v2 s2 a2 => ?_⟩
    obtain ⟨q2, xs1, Hm2, rfl, _, hq21, hm2, a2⟩ := a2
    have l0 : xs0.length = 3 := Paired.len W0
    have l1 : xs1.length = 4 := a2.len
    refine ⟨q, q2, _, _, rfl, rfl, s2 _ _ hq1, hq21, by rw [l0, l1, sizeLine_eq]; decide, ?_⟩
    have bq2 : But q H2 (upd H2 q (.lst (xs0 ++ xs1))) := fun c o n e => by rw [upd_ne n]; exact e
    have W1 : Its H (upd H2 q (.lst (xs0 ++ xs1))) q (xs0 ++ xs1) (told0 ++ told1) := by
      refine paired_app (Paired.mono W0 fun x v ⟨t, e, h⟩ => ⟨t, e, (h.mono s2).butq bq2⟩) ?_
      have h1p : ∀ c, H c ≠ none → H1 c ≠ none := fun c hc z => hc (Same.none s1 z)
      have h1q : H1 q ≠ none := by rw [hq1]; exact fun z => nomatch z
      exact Paired.mono (its_new h1p h1q (vs := told1) a2) fun x v ⟨t, e, h⟩ => ⟨t, e, (h.mono hm2.1).butq bq2⟩
    have P3 : Pot (upd H2 q (.lst (xs0 ++ xs1))) p := (P1.mono s2).upd nqp.symm
    have B3 : But p H (upd H2 q (.lst (xs0 ++ xs1))) := but_mut (B1.trans (But.of s2)) hq0
    have hq3 : (upd H2 q (.lst (xs0 ++ xs1))) q = some (.lst (xs0 ++ xs1)) := upd_same
    have l3 : (xs0 ++ xs1).length = 7 := by rw [List.length_append, l0, l1]
    generalize upd H2 q (.lst (xs0 ++ xs1)) = H3 at W1 P3 B3 hq3 ⊢
    generalize xs0 ++ xs1 = ys at W1 hq3 l3 ⊢
    clear a2 W0 bq2
    refine ⟨_, rfl, .inl ⟨rfl, _, SqL.of hq3⟩, fun H4 v4 s4 a4 => ?_⟩
    obtain ⟨q4, xs2, Hm4, rfl, _, hq41, hm4, a4⟩ := a4
    have l4 : xs2.length = 2 := a4.len
    refine ⟨q, q4, _, _, rfl, rfl, s4 _ _ hq3, hq41, by rw [l3, l4, sizeLine_eq]; decide, ?_⟩
    have bq4 : But q H4 (upd H4 q (.lst (ys ++ xs2))) := fun c o n e => by rw [upd_ne n]; exact e
    have h3p : ∀ c, H c ≠ none → H3 c ≠ none := fun c hc => But.some B3 (by obtain ⟨_, _, _, _, _, z⟩ := P3; rw [z]; exact fun z => nomatch z) hc
    have W2 : Its H (upd H4 q (.lst (ys ++ xs2))) q (ys ++ xs2) (told0 ++ told1 ++ told2) := by
      refine paired_app (Paired.mono W1 fun x v ⟨t, e, h⟩ => ⟨t, e, (h.mono s4).butq bq4⟩) ?_
      have h3q : H3 q ≠ none := by rw [hq3]; exact fun z => nomatch z
      exact Paired.mono (its_new h3p h3q (vs := told2) a4) fun x v ⟨t, e, h⟩ => ⟨t, e, (h.mono hm4.1).butq bq4⟩
    have P5 : Pot (upd H4 q (.lst (ys ++ xs2))) p := (P3.mono s4).upd nqp.symm
    have B5 : But p H (upd H4 q (.lst (ys ++ xs2))) := but_mut (B3.trans (But.of s4)) hq0
    have hq5 : (upd H4 q (.lst (ys ++ xs2))) q = some (.lst (ys ++ xs2)) := upd_same
    have l5 : (ys ++ xs2).length = 9 := by rw [List.length_append, l3, l4]
    generalize upd H4 q (.lst (ys ++ xs2)) = H5 at W2 P5 B5 hq5 ⊢
    generalize ys ++ xs2 = ys at W2 hq5 l5 ⊢
    clear a4 W1 bq4
    refine ⟨_, rfl, .inl ⟨rfl, _, SqL.of hq5⟩, fun H6 v6 s6 a6 => ?_⟩
    obtain ⟨q6, xs3, Hm6, rfl, _, hq61, hm6, a6⟩ := a6
    have l6 : xs3.length = 2 := a6.len
    refine ⟨q, q6, _, _, rfl, rfl, s6 _ _ hq5, hq61, by rw [l5, l6, sizeLine_eq]; decide, ?_⟩
    have bq6 : But q H6 (upd H6 q (.lst (ys ++ xs3))) := fun c o n e => by rw [upd_ne n]; exact e
    have h5p : ∀ c, H c ≠ none → H5 c ≠ none := fun c hc => But.some B5 (by obtain ⟨_, _, _, _, _, z⟩ := P5; rw [z]; exact fun z => nomatch z) hc
    have W3 : Its H (upd H6 q (.lst (ys ++ xs3))) q (ys ++ xs3) toldB := by
      refine paired_app (Paired.mono W2 fun x v ⟨t, e, h⟩ => ⟨t, e, (h.mono s6).butq bq6⟩) ?_
      have h5q : H5 q ≠ none := by rw [hq5]; exact fun z => nomatch z
      exact Paired.mono (its_new h5p h5q (vs := told3) a6) fun x v ⟨t, e, h⟩ => ⟨t, e, (h.mono hm6.1).butq bq6⟩
    have P7 : Pot (upd H6 q (.lst (ys ++ xs3))) p := (P5.mono s6).upd nqp.symm
    have B7 : But p H (upd H6 q (.lst (ys ++ xs3))) := but_mut (B5.trans (But.of s6)) hq0
    have hq7 : (upd H6 q (.lst (ys ++ xs3))) q = some (.lst (ys ++ xs3)) := upd_same
    have l7 : (ys ++ xs3).length = 11 := by rw [List.length_append, l5, l6]
    generalize upd H6 q (.lst (ys ++ xs3)) = H7 at W3 P7 B7 hq7 ⊢
    generalize ys ++ xs3 = ys at W3 hq7 l7 ⊢
    clear a6 W2 bq6
    -- the way
    refine ⟨_, rfl, _, rfl, q, _, rfl, .inl (SqL.of hq7), _, _, rfl, rfl, p, ys.length + 3, rfl, P7, by omega, by omega, fun d H8 hd hB8 => ?_⟩
    have B8 : But p H H8 := B7.trans hB8.1
    have hq8 := hB8.1 _ _ nqp hq7
    refine ⟨fun σ' H' => ∃ v a e, σ' = [some (.ref p), some (.int (m : Int)), some (.ref q), some (.int (d : Int)), some (.ref a), some (.ref e), none] ∧ ButP p H H' ∧ RL H' p a v.1 ∧ (∀ c, H c ≠ none → e ≠ c) ∧ H' e = some (.lst ((toI v.2).map V.int)) ∧ (v ∈ toldB ∨ Drawn v), ?_, ?_⟩
    · refine ⟨_, rfl, _, rfl, q, _, rfl, .inl (SqL.of hq8), _, _, rfl, rfl, _, rfl, ?_⟩
      refine ite2 (fun c => ?_) (fun c => ?_)
      · have hd2 : d < ys.length := by have := of_decide_eq_true c; omega
        obtain ⟨v, hv, t, et, hT⟩ := Paired.get W3 (List.getElem?_eq_getElem hd2)
        obtain ⟨n1, a, e, g1, g2, g3, g4⟩ := (hT.1 p hp0).but hB8.1
        have hA : ∀ c, H c ≠ none → e ≠ c := fun c hc => by
          obtain ⟨_, a', e', g1', _, g3', _⟩ := (hT.1 c hc).but2 (hT.1 p hp0) hB8.1
          rw [g1] at g1'
          injection g1' with z
          injection z with z
          injection z with _ z2
          injection z2 with z2 _
          injection z2 with z2
          rw [z2]
          exact g3'
        refine ⟨_, rfl, _, rfl, q, _, _, .ref t, rfl, rfl, .inl (SqL.of hq8), atI_nat (by rw [List.getElem?_eq_getElem hd2, et]), t, _, rfl, SqT.of g1, rfl, _, _, rfl, _, _, rfl, rfl, v, a, e, rfl, ⟨B8, hB8.2⟩, g2, hA, g4, .inl (List.mem_of_getElem? hv)⟩
      · refine ⟨_, rfl, p, rfl, hB8.2, fun H9 t v hB9 hT hTA hD => ?_⟩
        obtain ⟨n1, a, e, g1, g2, g3, g4⟩ := hT
        have hA : ∀ c, H c ≠ none → e ≠ c := fun c hc => by
          obtain ⟨_, a', e', g1', _, g3', _⟩ := hTA c (But.some B8 (by obtain ⟨_, _, _, _, _, z⟩ := hB8.2; rw [z]; exact fun z => nomatch z) hc)
          rw [g1] at g1'
          injection g1' with z
          injection z with z
          injection z with _ z2
          injection z2 with z2 _
          injection z2 with z2
          rw [z2]
          exact g3'
        exact ⟨t, _, rfl, SqT.of g1, rfl, _, _, rfl, _, _, rfl, rfl, v, a, e, rfl, ⟨B8.trans hB9.1, hB9.2⟩, g2, hA, g4, .inr hD⟩
    rintro σ' H9 ⟨v, a, e, rfl, hB9, hR, ne, hE, hv⟩
    obtain ⟨na, bs, hbs, hbP⟩ := hR
    have lb : bs.length = v.1.length := Paired.len hbP
    have vle : v.1.length ≤ 100 := by
      rcases hv with z | ⟨a, b, c, d, _, _, _, _, z, _⟩
      · have h : ∀ v ∈ toldB, v.1.length ≤ 100 := by decide
        exact h v z
      · rw [z]
        show 2 ≤ 100
        omega
    obtain ⟨p9a, p9b, _, _, _, hp9⟩ := id hB9.2
    have h9some : ∀ c, H c ≠ none → H9 c ≠ none := fun c hc => But.some hB9.1 (by rw [hp9]; exact fun z => nomatch z) hc
    refine ⟨_, rfl, a, rfl, ⟨_, SqL.of hbs⟩, fun D hD => ?_⟩
    refine lc_list (xs := bs.map V.ref) (fun i H10 => ∃ acc, LcP H9 D (fun i acc Hh => ∃ cs : List Addr, acc = cs.map V.ref ∧ Paired (fun b (r : List Nat) => (∀ c, H c ≠ none → b ≠ c) ∧ Hh b = some (.lst ((toI r).map V.int))) cs ((v.1.take i).map (List.take m))) i H10 acc) (lcP_start hD fun _ _ => ⟨[], rfl, .nil⟩) (fun i H10 _ ⟨acc, pp⟩ => SqL.of (pp.all _ _ hbs)) ?_ ?_
    · rintro i x H10 hx ⟨acc, pp⟩
      obtain ⟨b, hb, rfl⟩ := map_ref_get hx
      obtain ⟨r, hr, hbr⟩ := Paired.get hbP hb
      have hi := (List.getElem?_eq_some_iff.mp hb).1
      refine ⟨rfl, yesT ⟨_, rfl, _, rfl, _, rfl, b, _, rfl, SqL.of (pp.all _ _ hbr.2), fun c hc => ?_⟩⟩
      have hc2 : cutV ((toI r).map V.int) none (some (m : Int)) = (toI (r.take m)).map V.int := by
        unfold cutV
        rw [HT.sIx_nat]
        show (((toI r).map V.int).drop 0).take (min m ((toI r).map V.int).length - 0) = _
        rw [List.drop_zero, Nat.sub_zero, ← List.take_take, List.take_length]
        unfold toI
        rw [List.map_take, List.map_take]
      rw [hc2]
      have s11 : Same H10 (upd H10 c (.lst ((toI (r.take m)).map V.int))) := same_new hc
      have nD : c ≠ D := (ne_of_none pp.at_ hc).symm
      obtain ⟨cs, rfl, hcP⟩ := pp.is
      refine lcP_put pp (n := v.1.length) (by omega) (by rw [sizeLine_eq]; omega) s11 ⟨cs ++ [c], by rw [List.map_append] <;> rfl, ?_⟩
      rw [List.take_add_one, hr, List.map_append]
      exact Paired.snoc (Paired.mono hcP fun _ _ y => ⟨y.1, Same.hole s11 _ _ y.2⟩) ⟨fun z hz e => h9some z hz (Same.none pp.all (by rw [← e]; exact hc)), by rw [hole_ne nD]; exact upd_same⟩
    rintro H10 ⟨acc, pp⟩
    obtain ⟨cs, rfl, hcP⟩ := pp.is
    rw [List.length_map, lb, List.take_length] at hcP
    refine ⟨_, rfl, by show 2 ≤ sizeLine; decide, fun t ht => ?_⟩
    have s11 : Same H10 (upd H10 t (.tup [V.ref D, V.ref e])) := same_new ht
    have sA := pp.all.trans s11
    have fin : ∀ c, H c ≠ none → TA (upd H10 t (.tup [V.ref D, V.ref e])) c t (cutW m v) := fun c hc =>
      ⟨fun z => h9some c hc (Same.none pp.all (by rw [← z]; exact ht)), D, e, upd_same, ⟨fun z => h9some c hc (by rw [← z]; exact hD), cs, s11 _ _ pp.at_, Paired.mono hcP fun _ _ y => ⟨y.1 c hc, s11 _ _ (hole_sub _ _ y.2)⟩⟩, ne c hc, sA _ _ hE⟩
    exact k _ t v ⟨hB9.1.trans (But.of sA), hB9.2.mono sA⟩ (fin p hp0) fin hv
end
end K81
end
section
set_option Elab.async false
set_option maxRecDepth 100000
set_option maxHeartbeats 4000000
set_option linter.all false
set_option pp.maxSteps 1500
set_option pp.deepTerms false
/-! the law's small defs -/
namespace K81
open PySem PySem.Spec PyProof.Rows L2 K81M NdefX LamX
/-- a told machine for m letters -/
structure VOk (m : Nat) (v : View) : Prop where
  sts : Sts m v.1
  m1 : 1 ≤ m
  few : v.1.length ≤ 12
  nd : v.2.Nodup
  lt : ∀ q ∈ v.2, q < v.1.length
theorem VOk.val {m : Nat} {v : View} (h : VOk m v) : Valid m v.1 v.2 := ⟨h.sts.pos, h.sts.row, h.lt⟩
section
variable {P : Program} {w : World} {K : PySem.W.Frag} {mg : Str → Option Value} {base : Heap}
theorem tup2_0 {α : Type} {x y : α} : atI [x, y] 0 = some x := rfl
theorem tup2_1 {α : Type} {x y : α} : atI [x, y] 1 = some y := rfl
def spLMachine (K : PySem.W.Frag) : Sp := fun vs H Q _ => ∃ (p t : Addr) (m : Nat) (v : View), vs = [.int (m : Int), .ref t] ∧ TA H p t v ∧ VOk m v ∧ ∀ H' x st' en', Same H H' → Mach K H' x m st' en' → Canon m (lang m v.1 v.2) st' en' → Q (.ref x) H'
theorem scLMachine : FnScope ["_law_letters", "_law_told_here"] ["_law_letters", "_law_told_here"] (defScope (top 61)) := ⟨rfl, rfl, rfl, by decide +kernel, rfl, by decide +kernel, by decide +kernel⟩
theorem c_lmachine (T : Txt K mg) : Cal P w K mg base 6 "_law_machine" ["_law_letters", "_law_told_here"] (spLMachine K) := by
  obtain ⟨fI, FI, bI⟩ := f_init (P := P) (w := w) (base := base) T
  refine cal (top 61) T 36 34 rfl rfl scLMachine (fun _ _ _ _ _ _ us hl => match us, hl with | [_, _], _ => rfl) (fun vs H Q E h => ?_) (fun cdv A outer s H vs Q E hr h => ?_)
  · obtain ⟨p, t, m, v, rfl, _⟩ := h
    rfl
  · obtain ⟨p, t, m, v, rfl, ⟨n1, a, e, g1, g2, n3, g4⟩, V, k⟩ := h
    refine ⟨_, pss_one (ps_ret (pe_make T.mkr FI hr (by rfl) T.gM bI .nil pass0 (pa_cons (pv 0) (pa_cons (pe_ix ix_sq (pv 1) pe_int (fun _ _ => rfl)) (pa_cons (pe_ix ix_sq (pv 1) pe_int (fun _ _ => rfl)) pa_nil))))), ?_⟩
    refine ⟨_, rfl, _, rfl, t, _, _, _, rfl, rfl, .inr (SqT.of g1), tup2_0, _, rfl, t, _, _, _, rfl, rfl, .inr (SqT.of g1), tup2_1, fun x dx hx hdx ndx => ?_⟩
    have q5 : Same H (upd (upd H dx (.own x)) x (.ins (mC K) dx [])) := Same.up (same_new hdx) (by rw [upd_ne ndx.symm]; exact hx)
    refine ⟨x, dx, a, e, m, v.1, v.2, rfl, upd_same, (g2.mono q5).rows, V.sts, V.m1, V.few, SqL.of (q5 _ _ g4), V.nd, V.lt, fun H6 st6 en6 hB hM hC => ⟨rfl, ?_⟩⟩
    exact k _ x st6 en6 (fun c o h => hB c o (ne_of_none h hx) (q5 _ _ h)) ⟨dx, hM⟩ hC
/-! ### _law_spots, _law_led, _law_lets -/
def spLSpots : Sp := fun vs H Q _ => ∃ (u : List Nat), vs = [.str (wS u)] ∧ (∀ l ∈ u, l < 3) ∧ u.length ≤ 60 ∧ ∀ H' p, Same H H' → H p = none → H' p = some (.lst ((toI u).map V.int)) → Q (.ref p) H'
theorem scLSpots : FnScope ["_law_word", "_law_sign"] ["_law_word"] (defScope (top 62)) := ⟨rfl, rfl, rfl, by decide +kernel, rfl, by decide +kernel, by decide +kernel⟩
theorem c_lspots (T : Txt K mg) : Cal P w K mg base 1 "_law_spots" ["_law_word"] spLSpots := by
  refine cal (top 62) T 37 35 rfl rfl scLSpots (fun _ _ _ _ _ _ us hl => match us, hl with | [_], _ => rfl) (fun vs H Q E h => ?_) (fun cdv A outer s H vs Q E hr h => ?_)
  · obtain ⟨u, rfl, _⟩ := h
    rfl
  · obtain ⟨u, rfl, all, few, k⟩ := h
    have nd := scLSpots.nd
    refine ⟨_, pss_one (ps_ret (pe_lc (own := [("_law_sign", 1)]) (g := gName 1) (tt := tYes) rfl nd (pi_str (pv 0)) (blkOk_by (N := ["_law_word", "_law_sign"]) (sc := defScope (top 62)) (by decide +kernel)) (fun _ _ _ _ _ => pg_name (i := 1) nd rfl (Or.inl rfl)) (fun _ _ _ _ _ => pts_nil)
        (fun _ _ _ _ _ => pe_bmk (K := K) rfl PySem.F.plainAttrs_str PySem.F.slot_str_index PySem.F.type_str_index mt_sindex pe_str (pa_cons (pv 1) pa_nil)))), ?_⟩
    refine ⟨_, rfl, _, rfl, fun D hD => ?_⟩
    refine lc_it walk_str (fun i H4 => ∃ acc, LcP H D (fun i acc _ => acc = (toI (u.take i)).map V.int) i H4 acc) (lcP_start hD fun _ _ => rfl) (fun _ _ _ _ => trivial) ?_ ?_
    · rintro i x H4 _ hi ⟨acc, p⟩ ⟨rfl, c, hc, rfl⟩
      obtain ⟨l, hl, rfl⟩ := wS_get hc
      rw [wS_size] at hi
      obtain ⟨rest, hrest⟩ := abc_index (all l (List.mem_of_getElem? hl))
      refine ⟨rfl, yesT ⟨rfl, _, rfl, _, _, l, rest, rfl, rfl, hrest, ?_⟩⟩
      refine lcP_put p hi (by rw [sizeLine_eq]; omega) (Same.refl _) ?_
      rw [p.is, List.take_add_one, hl]
      simp [toI]
    · rintro H4 ⟨acc, p⟩
      have e := p.is
      rw [wS_size, List.take_length] at e
      exact k _ D p.all hD (by rw [p.at_, e])
def spLLed : Sp := fun vs H Q _ => ∃ (p t : Addr) (m q : Nat) (v : View) (u : List Nat), vs = [.ref t, .int (q : Int), .str (wS u)] ∧ TA H p t v ∧ VOk m v ∧ q < v.1.length ∧ Wd m u ∧ ∀ H', Same H H' → Q (.int (run v.1 q u : Nat)) H'
theorem scLLed : FnScope ["_law_told_here", "_law_state", "_law_word", "_law_here", "_law_spot"] ["_law_told_here", "_law_state", "_law_word"] (defScope (top 63)) := ⟨rfl, rfl, rfl, by decide +kernel, rfl, by decide +kernel, by decide +kernel⟩
theorem c_lled (T : Txt K mg) : Cal P w K mg base 2 "_law_led" ["_law_told_here", "_law_state", "_law_word"] spLLed := by
  refine cal (top 63) T 38 36 rfl rfl scLLed (fun _ _ _ _ _ _ us hl => match us, hl with | [_, _, _], _ => rfl) (fun vs H Q E h => ?_) (fun cdv A outer s H vs Q E hr h => ?_)
  · obtain ⟨p, t, m, q, v, u, rfl, _⟩ := h
    rfl
  · obtain ⟨p, t, m, q, v, u, rfl, hM, vo, hq, W, k⟩ := h
    have nd := scLLed.nd
    have hv := vo.val
    refine ⟨_, pss_cons (ps_set (i := 3) nd rfl (Or.inl rfl) (pv 1))
      (pss_cons (ps_for PassesOwn.never rfl (pi_list (pe_c (c_lspots T) hr (by decide) (pa_cons (pv 2) pa_nil))) (pg_name (i := 4) nd rfl (Or.inl rfl))
        (pss_one (ps_set (i := 3) nd rfl (Or.inl rfl) (pe_ix ix_sq (pe_ix ix_sq (pe_ix ix_sq (pv 0) pe_int (fun _ _ => rfl)) (pv 3) (fun _ _ => rfl)) (pv 4) (fun _ _ => rfl)))))
      (pss_one (ps_ret (pv 3)))), ?_⟩
    refine ⟨_, rfl, _, rfl, u, rfl, fun l hl => by have := W.all l hl; have := W.m3; omega, W.few, fun H1 sp s1 hs1 hs2 => ?_⟩
    refine ⟨sp, rfl, ⟨_, SqL.of hs2⟩, ?_⟩
    refine for_list (xs := (toI u).map V.int) (fun i σ' H2 => ∃ v4, σ' = [some (.ref t), some (.int (q : Int)), some (.str (wS u)), some (.int (run v.1 q (u.take i) : Nat)), v4] ∧ Same H1 H2) ⟨none, rfl, Same.refl _⟩ (fun i σ' H2 _ ⟨_, _, s2⟩ => SqL.of (s2 _ _ hs2)) ?_ ?_
    · rintro i x σ' H2 hx ⟨v4, rfl, s2⟩
      obtain ⟨z, hz, rfl⟩ := map_int_get hx
      obtain ⟨l, hl, rfl⟩ := toI_get hz
      have hlm := W.all l (List.mem_of_getElem? hl)
      obtain ⟨n1, a, e, g1, g2, n3, g4⟩ := hM.mono (s1.trans s2)
      have hlt : run v.1 q (u.take i) < v.1.length := run_lt hv hq fun k hk => W.all k (List.mem_of_mem_take hk)
      obtain ⟨row, hrow, hg⟩ := go_get hv hlt hlm
      obtain ⟨as, b, h1, h2, h3⟩ := rows_at (K := K) g2.rows hrow
      refine ⟨_, rfl, t, _, _, _, rfl, rfl, .inr (SqT.of g1), tup2_0, _, rfl, a, _, _, _, rfl, rfl, h1, atI_nat (refs_at h2), _, rfl, b, _, _, _, rfl, rfl, h3, atI_nat (ints_at (toI_at hg)), some (.int (l : Int)), ?_, s2⟩
      have e : run v.1 q (u.take (i + 1)) = go v.1 (run v.1 q (u.take i)) l := by
        rw [List.take_add_one, hl, run_app] <;> rfl
      rw [e] <;> rfl
    · rintro σ' H2 ⟨v4, rfl, s2⟩
      rw [ivs_len, List.take_length]
      exact ⟨_, rfl, k _ (s1.trans s2)⟩
def spLLets : Sp := fun vs H Q _ => ∃ (p t : Addr) (m : Nat) (v : View) (u : List Nat), vs = [.ref t, .str (wS u)] ∧ TA H p t v ∧ VOk m v ∧ Wd m u ∧ ∀ H', Same H H' → Q (.bl (decide (run v.1 0 u ∈ v.2))) H'
theorem scLLets : FnScope ["_law_told_here", "_law_word"] ["_law_told_here", "_law_word"] (defScope (top 64)) := ⟨rfl, rfl, rfl, by decide +kernel, rfl, by decide +kernel, by decide +kernel⟩
theorem c_llets (T : Txt K mg) : Cal P w K mg base 3 "_law_lets" ["_law_told_here", "_law_word"] spLLets := by
  refine cal (top 64) T 39 37 rfl rfl scLLets (fun _ _ _ _ _ _ us hl => match us, hl with | [_, _], _ => rfl) (fun vs H Q E h => ?_) (fun cdv A outer s H vs Q E hr h => ?_)
  · obtain ⟨p, t, m, v, u, rfl, _⟩ := h
    rfl
  · obtain ⟨p, t, m, v, u, rfl, hM, vo, W, k⟩ := h
    refine ⟨_, pss_one (ps_ret (pe_cmpR op_in_seq (pe_c (c_lled T) hr (by decide) (pa_cons (pv 0) (pa_cons pe_int (pa_cons (pv 1) pa_nil)))) (pe_ix ix_sq (pv 0) pe_int (fun _ _ => rfl)) (by rfl))), ?_⟩
    refine ⟨_, rfl, _, rfl, p, t, m, 0, v, u, rfl, hM, vo, vo.val.pos, W, fun H1 s1 => ?_⟩
    obtain ⟨n1, a, e, g1, g2, n3, g4⟩ := hM.mono s1
    refine ⟨_, rfl, t, _, _, _, rfl, rfl, .inr (SqT.of g1), tup2_1, e, _, rfl, .inl (SqL.of g4), rfl, flat_ints _, ?_⟩
    rw [inV_nat]
    exact k _ s1
end
end K81
end
section
set_option Elab.async false
set_option maxRecDepth 100000
set_option maxHeartbeats 4000000
set_option linter.all false
set_option pp.maxSteps 1500
set_option pp.deepTerms false
/-! _law_words -/
namespace K81
open PySem PySem.Spec PyProof.Rows L2 K81M NdefX LamX
/-- the words of n letters, those of at most n -/
def wordsN (m : Nat) : Nat → List (List Nat)
  | 0 => [[]]
  | n + 1 => (wordsN m n).flatMap fun w => (List.range m).map fun l => w ++ [l]
def wordsTo (m : Nat) : Nat → List (List Nat)
  | 0 => [[]]
  | n + 1 => wordsTo m n ++ wordsN m (n + 1)
abbrev txts (ws : List (List Nat)) : List V := ws.map fun u => V.str (wS u)
theorem wS_snoc (u : List Nat) (l : Nat) : wS u ++ (⟨#[97 + l]⟩ : Str) = wS (u ++ [l]) := by
  unfold wS
  show (⟨(u.map fun l => 97 + l).toArray ++ #[97 + l]⟩ : Str) = _
  congr 1
  simp
theorem wordsN_len {m n : Nat} : (wordsN m (n + 1)).length = (wordsN m n).length * m := by
  show ((wordsN m n).flatMap _).length = _
  rw [List.length_flatMap]
  generalize wordsN m n = ws
  induction ws with
  | nil => simp
  | cons w ws ih =>
    rw [List.map_cons, List.sum_cons, ih, List.length_map, List.length_range, List.length_cons, Nat.succ_mul]
    omega
theorem wordsN_le {m : Nat} (hm : m ≤ 2) : ∀ n, (wordsN m n).length ≤ 2 ^ n
  | 0 => Nat.le_refl _
  | n + 1 => by
    rw [wordsN_len, Nat.pow_succ]
    exact Nat.mul_le_mul (wordsN_le hm n) hm
theorem wordsTo_le {m : Nat} (hm : m ≤ 2) : ∀ n, (wordsTo m n).length ≤ 2 ^ (n + 1)
  | 0 => by show 1 ≤ 2; omega
  | n + 1 => by
    show (wordsTo m n ++ wordsN m (n + 1)).length ≤ _
    rw [List.length_append]
    have h1 := wordsTo_le hm n
    have h2 := wordsN_le hm (n + 1)
    rw [Nat.pow_succ 2 (n + 1)]
    omega
theorem wordsN_size {m : Nat} : ∀ {n : Nat} {w : List Nat}, w ∈ wordsN m n ↔ w.length = n ∧ ∀ l ∈ w, l < m
  | 0, w => by
    show w ∈ [[]] ↔ _
    rw [List.mem_singleton]
    constructor
    · rintro rfl
      exact ⟨rfl, fun l hl => nomatch hl⟩
    · exact fun h => List.length_eq_zero_iff.mp h.1
  | n + 1, w => by
    show w ∈ (wordsN m n).flatMap _ ↔ _
    rw [List.mem_flatMap]
    constructor
    · rintro ⟨u, hu, h⟩
      obtain ⟨l, hl, rfl⟩ := List.mem_map.mp h
      obtain ⟨h1, h2⟩ := wordsN_size.mp hu
      refine ⟨by rw [List.length_append, h1] <;> rfl, fun x hx => ?_⟩
      rcases List.mem_append.mp hx with z | z
      · exact h2 x z
      · rw [List.mem_singleton.mp z]; exact List.mem_range.mp hl
    · rintro ⟨h1, h2⟩
      have hne : w ≠ [] := fun z => by rw [z] at h1; cases h1
      have e := List.dropLast_concat_getLast hne
      refine ⟨w.dropLast, wordsN_size.mpr ⟨by rw [List.length_dropLast, h1] <;> rfl, fun l hl => h2 l (by rw [← e]; exact List.mem_append_left _ hl)⟩, List.mem_map.mpr ⟨w.getLast hne, List.mem_range.mpr (h2 _ (List.getLast_mem hne)), e⟩⟩
theorem wordsTo_mem {m : Nat} : ∀ {n : Nat} {w : List Nat}, w ∈ wordsTo m n ↔ w.length ≤ n ∧ ∀ l ∈ w, l < m
  | 0, w => by
    have := wordsN_size (m := m) (n := 0) (w := w)
    rw [show wordsTo m 0 = wordsN m 0 from rfl, this]
    exact ⟨fun h => ⟨by omega, h.2⟩, fun h => ⟨by omega, h.2⟩⟩
  | n + 1, w => by
    show w ∈ wordsTo m n ++ wordsN m (n + 1) ↔ _
    rw [List.mem_append, wordsTo_mem, wordsN_size]
    constructor
    · rintro (h | h)
      · exact ⟨by omega, h.2⟩
      · exact ⟨by omega, h.2⟩
    · intro h
      by_cases c : w.length ≤ n
      · exact .inl ⟨c, h.2⟩
      · exact .inr ⟨by omega, h.2⟩
theorem abc_cut {m : Nat} (h1 : 1 ≤ m) (h2 : m ≤ 2) : (cutS "abc" none (some (m : Int))).cps = ((List.range m).map fun i => 97 + i).toArray := by
  have h : m = 1 ∨ m = 2 := by omega
  rcases h with rfl | rfl
  · decide +kernel
  · decide +kernel
section
variable {P : Program} {w : World} {K : PySem.W.Frag} {mg : Str → Option Value} {base : Heap}
def spLWords : Sp := fun vs H Q _ => ∃ (m n : Nat), vs = [.int (m : Int), .int (n : Int)] ∧ 1 ≤ m ∧ m ≤ 2 ∧ n ≤ 5 ∧ ∀ H' p, Same H H' → H p = none → H' p = some (.lst (txts (wordsTo m n))) → Q (.ref p) H'
abbrev nmLW : List Str := ["_law_letters", "_law_length", "_law_found", "_law_last", "_law_turn", "_law_longer", "_law_word", "_law_sign"]
theorem scLW : FnScope nmLW ["_law_letters", "_law_length"] (defScope (top 65)) := ⟨rfl, rfl, rfl, by decide +kernel, rfl, by decide +kernel, by decide +kernel⟩
theorem c_lwords (T : Txt K mg) : Cal P w K mg base 1 "_law_words" ["_law_letters", "_law_length"] spLWords := by
  refine cal (top 65) T 40 38 rfl rfl scLW (fun _ _ _ _ _ _ us hl => match us, hl with | [_, _], _ => rfl) (fun vs H Q E h => ?_) (fun cdv A outer s H vs Q E hr h => ?_)
  · obtain ⟨m, n, rfl, _⟩ := h
    rfl
  · obtain ⟨m, n, rfl, m1, m2, n5, k⟩ := h
    have nd := scLW.nd
    refine ⟨_, pss_cons (ps_par (i := 2) (j := 3) rfl nd rfl rfl (by decide) rfl rfl (pa_cons (pe_lst (pa_cons pe_str pa_nil)) (pa_cons (pe_lst (pa_cons pe_str pa_nil)) pa_nil)) (by rfl))
      (pss_cons (ps_for PassesOwn.never rfl (pi_range1 rfl (T.f 12 rfl) (pa_cons (pv 1) pa_nil)) (pg_name (i := 4) nd rfl (Or.inl rfl))
        (pss_cons (ps_set (i := 5) nd rfl (Or.inl rfl) (pe_lst pa_nil))
        (pss_cons (ps_for PassesOwn.never rfl (pi_list (pv 3)) (pg_name (i := 6) nd rfl (Or.inr rfl))
          (pss_one (ps_expr (pe_bm PySem.F.plainAttrs_list PySem.F.slot_list_extend PySem.F.type_list_extend mt_extend (pv 5) (pa_cons (pe_lc (own := [("_law_sign", 7)]) (g := gName 7) (tt := tYes) rfl nd (pi_str (pe_slice sl_str pe_str po_none (po_some (pv 0)))) (blkOk_by (N := nmLW) (sc := defScope (top 65)) (by decide +kernel)) (fun _ _ _ _ _ => pg_name (i := 7) nd rfl (Or.inl rfl)) (fun _ _ _ _ _ => pts_nil)
            (fun _ _ _ _ _ => pe_op op_add_str (pv 6) (pv 7))) pa_nil)))))
        (pss_one (ps_par (i := 2) (j := 3) rfl nd rfl rfl (by decide) rfl rfl (pa_cons (pe_op op_cat (pv 2) (pv 5)) (pa_cons (pv 5) pa_nil)) (by rfl))))))
      (pss_one (ps_ret (pv 2)))), ?_⟩
    refine ⟨by show 1 ≤ sizeLine; decide, fun fp hfp => ⟨by show 1 ≤ sizeLine; decide, fun lp hlp => ⟨_, _, rfl, ?_⟩⟩⟩
    have s1 : Same H (upd H fp (.lst [V.str ""])) := same_new hfp
    have s2 := Same.up (o := HO.lst [V.str ""]) s1 hlp
    have hf0 : (upd (upd H fp (.lst [V.str ""])) lp (.lst [V.str ""])) fp = some (.lst (txts (wordsTo m 0))) := by rw [upd_ne (ne_of_none upd_same hlp)]; exact upd_same
    have hl0 : (upd (upd H fp (.lst [V.str ""])) lp (.lst [V.str ""])) lp = some (.lst (txts (wordsN m 0))) := upd_same
    generalize upd (upd H fp (.lst [V.str ""])) lp (.lst [V.str ""]) = H1 at s2 hf0 hl0 ⊢
    refine ⟨_, rfl, (n : Int), rfl, by omega, by omega, ?_⟩
    refine for_it (walk_range (lo := 0) (n := n)) (fun i σ' H' => ∃ fp lp v4 v5 v6, σ' = [some (.int (m : Int)), some (.int (n : Int)), some (.ref fp), some (.ref lp), v4, v5, v6, none] ∧ Same H H' ∧ H fp = none ∧ H' fp = some (.lst (txts (wordsTo m i))) ∧ H' lp = some (.lst (txts (wordsN m i)))) ⟨fp, lp, none, none, none, rfl, s2, hfp, hf0, hl0⟩ (fun _ _ _ _ _ => trivial) ?_ ?_
    · rintro i x σ' _ H2 hi ⟨fp, lp, v4, v5, v6, rfl, s2, hfp, hf, hl⟩ ⟨rfl, rfl⟩
      refine ⟨by show 0 ≤ sizeLine; decide, fun gp hgp => ?_⟩
      have s3 : Same H2 (upd H2 gp (.lst [])) := same_new hgp
      have hgH : H gp = none := Same.none s2 hgp
      have hg3 : (upd H2 gp (.lst [])) gp = some (.lst []) := upd_same
      have nfg : fp ≠ gp := ne_of_none hf hgp
      have nlg : lp ≠ gp := ne_of_none hl hgp
      have sz1 : (wordsN m i).length ≤ 32 := Nat.le_trans (wordsN_le m2 i) (Nat.le_trans (Nat.pow_le_pow_right (by decide) (show i ≤ 5 by omega)) (by decide))
      have sz2 : (wordsTo m i).length ≤ 64 := Nat.le_trans (wordsTo_le m2 i) (Nat.le_trans (Nat.pow_le_pow_right (by decide) (show i + 1 ≤ 6 by omega)) (by decide))
      let step : List Nat → List (List Nat) := fun w => (List.range m).map fun l => w ++ [l]
      have hf3 := s3 _ _ hf
      have hl3 := s3 _ _ hl
      have s23 := s2.trans s3
      generalize upd H2 gp (.lst []) = H3 at hg3 hf3 hl3 s23 ⊢
      refine ⟨_, rfl, lp, rfl, ⟨_, SqL.of hl3⟩, ?_⟩
      refine for_list (xs := txts (wordsN m i)) (fun j σ' H4 => ∃ v6, σ' = [some (.int (m : Int)), some (.int (n : Int)), some (.ref fp), some (.ref lp), some (.int (0 + (i : Int))), some (.ref gp), v6, none] ∧ Same H H4 ∧ H4 fp = some (.lst (txts (wordsTo m i))) ∧ H4 lp = some (.lst (txts (wordsN m i))) ∧ H4 gp = some (.lst (txts (((wordsN m i).take j).flatMap step))))
        ⟨v6, rfl, s23, hf3, hl3, hg3⟩ (fun j σ' H4 _ ⟨_, _, _, _, h, _⟩ => SqL.of h) ?_ ?_
      · rintro j x σ' H4 hx ⟨v6, rfl, s4, hf4, hl4, hg4⟩
        obtain ⟨w, hw, rfl⟩ : ∃ w, (wordsN m i)[j]? = some w ∧ x = V.str (wS w) := by
          rw [List.getElem?_map] at hx
          cases e : (wordsN m i)[j]? with
          | none => rw [e] at hx; cases hx
          | some w => rw [e] at hx; exact ⟨w, rfl, (Option.some.inj hx).symm⟩
        have wl : w.length ≤ 5 := by have := (wordsN_size.mp (List.mem_of_getElem? hw)).1; omega
        refine ⟨_, rfl, .inl ⟨rfl, _, SqL.of hg4⟩, _, rfl, _, rfl, _, rfl, by show 3 ≤ sizeLine; decide, _, rfl, fun D hD => ?_⟩
        have ez : (cutS "abc" none (some (m : Int))).cps.size = m := by rw [abc_cut m1 m2]; simp
        have eg : ∀ {i c : Nat}, (cutS "abc" none (some (m : Int))).cps[i]? = some c → i < m ∧ c = 97 + i := fun {i c} h => by
          rw [abc_cut m1 m2, List.getElem?_toArray, List.getElem?_map] at h
          by_cases hi : i < m
          · rw [List.getElem?_range hi] at h
            exact ⟨hi, (Option.some.inj h).symm⟩
          · rw [List.getElem?_eq_none (l := List.range m) (by rw [List.length_range]; omega)] at h
            cases h
        refine lc_it walk_str (fun i H5 => ∃ acc, LcP H4 D (fun i acc _ => acc = txts ((List.range i).map fun l => w ++ [l])) i H5 acc) (lcP_start hD fun _ _ => rfl) (fun _ _ _ _ => trivial) ?_ ?_
        · rintro l x H5 _ hl' ⟨acc, p⟩ ⟨rfl, c, hc, rfl⟩
          obtain ⟨hlm, rfl⟩ := eg hc
          refine ⟨rfl, yesT ⟨_, rfl, _, rfl, _, _, rfl, rfl, ?_, ?_⟩⟩
          · rw [wS_len]
            show w.length + 1 ≤ sizeLine
            rw [sizeLine_eq]
            omega
          · rw [wS_snoc]
            refine lcP_put p hl' (by rw [ez, sizeLine_eq]; omega) (Same.refl _) ?_
            rw [p.is, List.range_succ, List.map_append]
            unfold txts
            rw [List.map_append] <;> rfl
        rintro H5 ⟨acc, p⟩
        have e5 := p.is
        rw [ez] at e5
        have nDg : D ≠ gp := (ne_of_none hg4 hD).symm
        have tl : ((wordsN m i).take j).length ≤ 32 := by rw [List.length_take]; omega
        have fl : ∀ ws : List (List Nat), (ws.flatMap step).length = ws.length * m := fun ws => by
          induction ws with
          | nil => simp
          | cons w ws ih =>
            rw [List.flatMap_cons, List.length_append, ih, List.length_map, List.length_range, List.length_cons, Nat.succ_mul]
            omega
        refine ⟨gp, D, _, _, rfl, rfl, p.all _ _ hg4, p.at_, ?_, ?_⟩
        · rw [e5]
          unfold txts
          rw [List.length_map, fl, List.length_map, List.length_map, List.length_range, sizeLine_eq]
          have : ((wordsN m i).take j).length * m ≤ 32 * 2 := Nat.mul_le_mul tl m2
          omega
        · have s5 := s4.trans p.all
          refine ⟨some (.str (wS w)), rfl, same_mut s5 hgH, ?_, ?_, ?_⟩
          · rw [upd_ne nfg]; exact p.all _ _ hf4
          · rw [upd_ne nlg]; exact p.all _ _ hl4
          · rw [upd_same, e5, List.take_add_one, hw, List.flatMap_append]
            unfold txts
            rw [List.map_append]
            simp [step]
      rintro σ' H4 ⟨v6, rfl, s4, hf4, hl4, hg4⟩
      have eN : ((wordsN m i).take (txts (wordsN m i)).length).flatMap step = wordsN m (i + 1) := by
        unfold txts
        rw [List.length_map, List.take_length] <;> rfl
      rw [eN] at hg4
      have sz3 : (wordsN m (i + 1)).length ≤ 32 := Nat.le_trans (wordsN_le m2 (i + 1)) (Nat.le_trans (Nat.pow_le_pow_right (by decide) (show i + 1 ≤ 5 by omega)) (by decide))
      refine ⟨_, rfl, _, rfl, fp, gp, _, _, rfl, rfl, hf4, hg4, ?_, fun np hnp => ⟨_, rfl, _, _, rfl, ?_⟩⟩
      · unfold txts
        rw [List.length_map, List.length_map, sizeLine_eq]
        omega
      have s6 : Same H4 (upd H4 np (.lst (txts (wordsTo m i) ++ txts (wordsN m (i + 1))))) := same_new hnp
      refine ⟨np, gp, _, _, _, rfl, s4.trans s6, Same.none s4 hnp, ?_, s6 _ _ hg4⟩
      rw [upd_same]
      unfold txts
      rw [← List.map_append] <;> rfl
    rintro σ' H2 ⟨fp, lp, v4, v5, v6, rfl, s2, hfp, hf, hl⟩
    exact ⟨_, rfl, k _ fp s2 hfp hf⟩
end
end K81
end
section
set_option Elab.async false
set_option maxRecDepth 100000
set_option maxHeartbeats 4000000
set_option linter.all false
set_option pp.maxSteps 1500
set_option pp.deepTerms false
/-! _law_over, _law_world -/
namespace K81
open PySem PySem.Spec PyProof.Rows L2 K81M NdefX LamX
/-- a two-state machine over k views -/
structure OverOk (k : Nat) (v : View) : Prop where
  two : ∃ r0 r1, v.1 = [r0, r1]
  row : ∀ r ∈ v.1, r.length = k ∧ ∀ q ∈ r, q < 2
  ends : v.2 = [] ∨ v.2 = [0] ∨ v.2 = [1] ∨ v.2 = [0, 1]
section
variable {P : Program} {w : World} {K : PySem.W.Frag} {mg : Str → Option Value} {base : Heap}
def spOver : Sp := fun vs H Q _ => ∃ (p : Addr) (k : Nat), vs = [.ref p, .int (k : Int)] ∧ Pot H p ∧ 1 ≤ k ∧ k ≤ 3 ∧ ∀ H' t v, ButP p H H' → TA H' p t v → OverOk k v → Q (.ref t) H'
abbrev nmOver : List Str := ["_law_pot_here", "_law_many", "_law_steps", "_law_ends", "_law_state", "_law_spot"]
theorem scOver : FnScope nmOver ["_law_pot_here", "_law_many"] (defScope (top 69)) := ⟨rfl, rfl, rfl, by decide +kernel, rfl, by decide +kernel, by decide +kernel⟩
theorem c_over (T : Txt K mg) : Cal P w K mg base 2 "_law_over" ["_law_pot_here", "_law_many"] spOver := by
  refine cal (top 69) T 44 42 rfl rfl scOver (fun _ _ _ _ _ _ us hl => match us, hl with | [_, _], _ => rfl) (fun vs H Q E h => ?_) (fun cdv A outer s H vs Q E hr h => ?_)
  · obtain ⟨p, k, rfl, _⟩ := h
    rfl
  · obtain ⟨p, kk, rfl, hP, k1, k3, k⟩ := h
    have nd := scOver.nd
    refine ⟨_, pss_cons (ps_par (i := 2) (j := 3) rfl nd rfl rfl (by decide) rfl rfl (pa_cons (pe_lst pa_nil) (pa_cons (pe_lst pa_nil) pa_nil)) (by rfl))
      (pss_cons (ps_for PassesOwn.never rfl (pi_range1 rfl (T.f 12 rfl) (pa_cons pe_int pa_nil)) (pg_name (i := 4) nd rfl (Or.inl rfl))
        (pss_cons (ps_expr (pe_bm PySem.F.plainAttrs_list PySem.F.slot_list_append PySem.F.type_list_append mt_append (pv 2) (pa_cons (pe_lst pa_nil) pa_nil)))
        (pss_cons (ps_for PassesOwn.never rfl (pi_range1 rfl (T.f 12 rfl) (pa_cons (pv 1) pa_nil)) (pg_name (i := 5) nd rfl (Or.inl rfl))
          (pss_one (ps_expr (pe_bm PySem.F.plainAttrs_list PySem.F.slot_list_append PySem.F.type_list_append mt_append (pe_ix ix_list (pv 2) (pe_un un_neg pe_int) (fun _ _ => rfl)) (pa_cons (pe_c (c_draw T) hr (by decide) (pa_cons (pv 0) (pa_cons pe_int pa_nil))) pa_nil)))))
        (pss_one (ps_if (pt_cmpR op_eq (pe_c (c_draw T) hr (by decide) (pa_cons (pv 0) (pa_cons pe_int pa_nil))) pe_int (nomark _)) (pss_one (ps_expr (pe_bm PySem.F.plainAttrs_list PySem.F.slot_list_append PySem.F.type_list_append mt_append (pv 3) (pa_cons (pv 4) pa_nil)))) pss_nil)))))
      (pss_one (ps_ret (pe_tup (pa_cons (pv 2) (pa_cons (pv 3) pa_nil)))))), ?_⟩
    refine ⟨by show 0 ≤ sizeLine; decide, fun sp hsp => ⟨by show 0 ≤ sizeLine; decide, fun ep hep => ⟨_, _, rfl, ?_⟩⟩⟩
    have q1 : Same H (upd H sp (.lst [])) := same_new hsp
    have q2 := Same.up (o := HO.lst []) q1 hep
    obtain ⟨pa, pb, _, _, _, hpp⟩ := id hP
    have D0 : DS H (upd (upd H sp (.lst [])) ep (.lst [])) p sp ep [] [] [] :=
      ⟨But.of q2, hP.mono q2, by rw [upd_ne (ne_of_none upd_same hep)]; exact upd_same, upd_same, hsp, Same.none q1 hep, ne_of_none upd_same hep, (ne_of_none hpp hsp).symm, (ne_of_none (q1 _ _ hpp) hep).symm, .nil⟩
    generalize upd (upd H sp (.lst [])) ep (.lst []) = H1 at D0 ⊢
    refine ⟨(2 : Int), rfl, by decide, by decide, ?_⟩
    refine for_it (walk_range (lo := 0) (n := 2)) (fun i σ' H' => ∃ v4 v5 bs st en, σ' = [some (.ref p), some (.int (kk : Int)), some (.ref sp), some (.ref ep), v4, v5] ∧ DS H H' p sp ep bs st en ∧ st.length = i ∧ (∀ r ∈ st, r.length = kk ∧ ∀ q ∈ r, q < 2) ∧ ∃ f : Nat → Bool, en = (List.range i).filter f) ⟨none, none, [], [], [], rfl, D0, rfl, (fun r hr => nomatch hr), fun _ => false, rfl⟩ (fun _ _ _ _ _ => trivial) ?_ ?_
    · rintro i x σ' _ H4 hi ⟨v4, v5, bs, st, en, rfl, D, ls, two, f, hf⟩ ⟨rfl, rfl⟩
      have lb : bs.length = st.length := Paired.len D.rows
      have lbi : bs.length = i := lb.trans ls
      have lei : en.length ≤ i := by
        rw [hf]
        have := List.length_filter_le f (List.range i)
        rwa [List.length_range] at this
      refine ⟨_, rfl, .inl ⟨rfl, _, SqL.of D.s⟩, by show 0 ≤ sizeLine; decide, fun b hb => ⟨sp, _, _, rfl, rfl, (D.mono (same_new hb)).s, by rw [List.length_map, lbi, sizeLine_eq]; omega, ?_⟩⟩
      have D6 := D.mono (same_new (o := .lst []) hb)
      have h6 : (upd H4 b (.lst [])) b = some (.lst ((toI []).map V.int)) := upd_same
      obtain ⟨pa5, pb5, _, _, _, hp5⟩ := D.pot
      have hbn : H b = none := But.none D.but (by rw [hp5]; exact fun z => nomatch z) hb
      have nb : b ≠ p ∧ b ≠ sp ∧ b ≠ ep ∧ H b = none := ⟨(ne_of_none hp5 hb).symm, (ne_of_none D.s hb).symm, (ne_of_none D.e hb).symm, hbn⟩
      have nbs : ∀ c ∈ bs, c ≠ b := fun c hc => by
        obtain ⟨j, hj⟩ := List.mem_iff_getElem?.mp hc
        obtain ⟨r, _, h2⟩ := Paired.get D.rows hj
        exact ne_of_none h2.2 hb
      have D7 := D6.addRow nb h6
      generalize upd (upd H4 b (.lst [])) sp (.lst (bs.map V.ref ++ [V.ref b])) = H7 at D7 ⊢
      refine ⟨_, rfl, (kk : Int), rfl, by omega, by omega, ?_⟩
      refine for_it (walk_range (lo := 0) (n := kk)) (fun j σ' H' => ∃ v5 r, σ' = [some (.ref p), some (.int (kk : Int)), some (.ref sp), some (.ref ep), some (.int (0 + (i : Int))), v5] ∧ DS H H' p sp ep (bs ++ [b]) (st ++ [r]) en ∧ r.length = j ∧ ∀ q ∈ r, q < 2) ⟨v5, [], rfl, D7, rfl, fun q hq => nomatch hq⟩ (fun _ _ _ _ _ => trivial) ?_ ?_
      · rintro j x σ' _ H8 hj ⟨v5, r, rfl, D8, lr, hr2⟩ ⟨rfl, rfl⟩
        have hs8 := D8.s
        rw [List.map_append] at hs8
        have hb8 : H8 b = some (.lst ((toI r).map V.int)) := by
          obtain ⟨r2, e2, h2⟩ := Paired.get D8.rows (i := bs.length) (a := b) (by simp)
          rw [lb, List.getElem?_append_right (Nat.le_refl _), Nat.sub_self] at e2
          obtain rfl : r = r2 := Option.some.inj e2
          exact h2.2
        refine ⟨_, rfl, _, rfl, sp, _, _, _, rfl, rfl, SqL.of hs8, atI_last, .inl ⟨rfl, _, SqL.of hb8⟩, _, rfl, p, 2, rfl, D8.pot, by decide, by decide, fun d H9 hd hB9 => ?_⟩
        have D9 := D8.draw hB9
        have hb9 := hB9.1 _ _ nb.1 hb8
        refine ⟨b, _, _, rfl, rfl, hb9, by rw [ivs_len, lr, sizeLine_eq]; omega, ?_⟩
        have D10 := D9.setLast (r' := r ++ [d]) lb nbs
        rw [← ivs_snoc]
        exact ⟨_, r ++ [d], rfl, D10, by rw [List.length_append, lr] <;> rfl, fun q hq => by
          rcases List.mem_append.mp hq with z | z
          · exact hr2 q z
          · rw [List.mem_singleton.mp z]; exact hd⟩
      rintro σ' H9 ⟨v5, r, rfl, D9, lr, hr2⟩
      refine ⟨_, rfl, p, 2, rfl, D9.pot, by decide, by decide, fun d3 H10 hd3 hB10 => ?_⟩
      have D10 := D9.draw hB10
      have two' : ∀ r' ∈ st ++ [r], r'.length = kk ∧ ∀ q ∈ r', q < 2 := fun r' hr' => by
        rcases List.mem_append.mp hr' with z | z
        · exact two r' z
        · rw [List.mem_singleton.mp z]; exact ⟨lr, hr2⟩
      have len' : (st ++ [r]).length = i + 1 := by rw [List.length_append, ls] <;> rfl
      refine ⟨rfl, _, rfl, ?_⟩
      refine ite2 (fun c => ?_) (fun c => ?_)
      · refine ⟨_, rfl, .inl ⟨rfl, _, SqL.of D10.e⟩, _, rfl, ep, _, _, rfl, rfl, D10.e, by rw [ivs_len, sizeLine_eq]; omega, ?_⟩
        have D11 := D10.addEnd (en' := en ++ [i])
        refine ⟨_, _, bs ++ [b], st ++ [r], en ++ [i], rfl, ?_, len', two', fun j => if j = i then true else f j, ?_⟩
        · have e11 : (toI en).map V.int ++ [V.int (0 + (i : Int))] = (toI (en ++ [i])).map V.int := by
            rw [Int.zero_add, ivs_snoc]
          rw [e11]
          exact D11
        · rw [hf, filter_ext_at, if_pos rfl]
      · refine ⟨_, _, bs ++ [b], st ++ [r], en, rfl, D10, len', two', fun j => if j = i then false else f j, ?_⟩
        rw [hf, filter_ext_at, if_neg (by decide), List.append_nil]
    rintro σ' H4 ⟨v4, v5, bs, st, en, rfl, D, ls, two, f, hf⟩
    refine ⟨_, rfl, _, rfl, by show 2 ≤ sizeLine; decide, fun t ht => ?_⟩
    have s5 : Same H4 (upd H4 t (.tup [V.ref sp, V.ref ep])) := same_new ht
    have D5 := D.mono s5
    obtain ⟨pa5, pb5, _, _, _, hp5⟩ := D.pot
    refine k _ t (st, en) ⟨D5.but, D5.pot⟩ ⟨(ne_of_none hp5 ht).symm, sp, ep, upd_same, ⟨D.sp', bs, D5.s, Paired.mono D5.rows fun _ _ q => ⟨q.1.1, q.2⟩⟩, D.ep', D5.e⟩ ⟨?_, two, ?_⟩
    · match st, ls with
      | [r1, r2], _ => exact ⟨r1, r2, rfl⟩
    · show en = [] ∨ en = [0] ∨ en = [1] ∨ en = [0, 1]
      have e2 : List.range 2 = [0, 1] := rfl
      rw [hf, e2]
      cases f0 : f 0 <;> cases f1 : f 1 <;> simp [f0, f1]
end
end K81
end
section
set_option Elab.async false
set_option maxRecDepth 100000
set_option maxHeartbeats 4000000
set_option linter.all false
set_option pp.maxSteps 1500
set_option pp.deepTerms false
/-! _law_world -/
namespace K81
open PySem PySem.Spec PyProof.Rows L2 K81M NdefX LamX
section
variable {P : Program} {w : World} {K : PySem.W.Frag} {mg : Str → Option Value} {base : Heap}
/-- the drawn world: letters, a machine that is not used, the views -/
structure WorldAt (H : Hp) (p t : Addr) (m : Nat) (vl : Addr) (ts : List Addr) (vs : List View) : Prop where
  mm : m = 1 ∨ m = 2
  tup : ∃ th, H t = some (.tup [.int (m : Int), .ref th, .ref vl])
  lst : H vl = some (.lst (ts.map V.ref))
  vws : Paired (fun t v => TA H p t (cutW m v)) ts vs
  are : ∀ v ∈ vs, v ∈ toldB ∨ Drawn v
  np : vl ≠ p
def spWorld : Sp := fun vs H Q _ => ∃ (p : Addr) (n : Nat), vs = [.ref p, .int (n : Int)] ∧ Pot H p ∧ 1 ≤ n ∧ n ≤ 10 ∧ ∀ H' t m vl ts vs, ButP p H H' → WorldAt H' p t m vl ts vs → 1 ≤ vs.length → vs.length ≤ n → Q (.ref t) H'
abbrev nmWorld : List Str := ["_law_pot_here", "_law_most", "_law_letters", "_law_told_here", "_law_views", "_law_turn"]
theorem scWorld : FnScope nmWorld ["_law_pot_here", "_law_most"] (defScope (top 66)) := ⟨rfl, rfl, rfl, by decide +kernel, rfl, by decide +kernel, by decide +kernel⟩
theorem c_world (T : Txt K mg) : Cal P w K mg base 4 "_law_world" ["_law_pot_here", "_law_most"] spWorld := by
  refine cal (top 66) T 41 39 rfl rfl scWorld (fun _ _ _ _ _ _ us hl => match us, hl with | [_, _], _ => rfl) (fun vs H Q E h => ?_) (fun cdv A outer s H vs Q E hr h => ?_)
  · obtain ⟨p, n, rfl, _⟩ := h
    rfl
  · obtain ⟨p, n, rfl, hP, n1, n2, k⟩ := h
    have nd := scWorld.nd
    refine ⟨_, pss_cons (ps_set (i := 2) nd rfl (Or.inl rfl) (pe_c (c_pick T) hr (by decide) (pa_cons (pv 0) (pa_cons (pe_lst (pa_cons pe_int (pa_cons pe_int (pa_cons pe_int pa_nil)))) pa_nil))))
      (pss_cons (ps_par (i := 3) (j := 4) rfl nd rfl rfl (by decide) rfl rfl (pa_cons (pe_c (c_told T) hr (by decide) (pa_cons (pv 0) (pa_cons (pv 2) pa_nil))) (pa_cons (pe_lst pa_nil) pa_nil)) (by rfl))
      (pss_cons (ps_for PassesOwn.never rfl (pi_range1 rfl (T.f 12 rfl) (pa_cons (pe_op op_add pe_int (pe_c (c_draw T) hr (by decide) (pa_cons (pv 0) (pa_cons (pv 1) pa_nil)))) pa_nil)) (pg_name (i := 5) nd rfl (Or.inl rfl))
        (pss_one (ps_expr (pe_bm PySem.F.plainAttrs_list PySem.F.slot_list_append PySem.F.type_list_append mt_append (pv 4) (pa_cons (pe_c (c_told T) hr (by decide) (pa_cons (pv 0) (pa_cons (pv 2) pa_nil))) pa_nil)))))
      (pss_one (ps_ret (pe_tup (pa_cons (pv 2) (pa_cons (pv 3) (pa_cons (pv 4) pa_nil)))))))), ?_⟩
    obtain ⟨pa, pb, _, _, _, hpp⟩ := id hP
    refine ⟨_, rfl, by show 3 ≤ sizeLine; decide, fun l hl => ⟨p, l, _, rfl, hP.mono (same_new hl), SqL.of upd_same, (ne_of_none hpp hl).symm, by show 1 ≤ 3; decide, by show 3 ≤ 1000; decide, fun v H1 hv hB1 => ?_⟩⟩
    have B1 : But p H H1 := (But.of (same_new hl)).trans hB1.1
    obtain ⟨m, rfl, hm⟩ : ∃ m : Nat, v = V.int (m : Int) ∧ (m = 1 ∨ m = 2) := by
      rcases List.mem_cons.mp hv with e | hv
      · exact ⟨2, e, .inr rfl⟩
      rcases List.mem_cons.mp hv with e | hv
      · exact ⟨2, e, .inr rfl⟩
      · exact ⟨1, List.mem_singleton.mp hv, .inl rfl⟩
    refine ⟨_, rfl, _, rfl, p, m, rfl, hB1.2, by omega, by omega, fun H2 th v0 hB2 hT0 _ _ => ⟨by show 0 ≤ sizeLine; decide, fun vl hvl => ⟨_, _, rfl, ?_⟩⟩⟩
    have B2 := B1.trans hB2.1
    obtain ⟨p2a, p2b, _, _, _, hp2⟩ := id hB2.2
    have hvlH : H vl = none := But.none B2 (by rw [hp2]; exact fun z => nomatch z) hvl
    have nvp : vl ≠ p := (ne_of_none hp2 hvl).symm
    have B3 : But p H (upd H2 vl (.lst [])) := B2.trans (But.of (same_new hvl))
    have P3 : Pot (upd H2 vl (.lst [])) p := hB2.2.mono (same_new hvl)
    have hv3 : (upd H2 vl (.lst [])) vl = some (.lst []) := upd_same
    generalize upd H2 vl (.lst []) = H3 at B3 P3 hv3 ⊢
    refine ⟨_, rfl, _, rfl, p, n, rfl, P3, n1, by omega, fun d H4 hd hB4 => ⟨_, _, rfl, rfl, _, rfl, by omega, by omega, ?_⟩⟩
    have eN : (1 + (d : Int)).toNat = d + 1 := by omega
    rw [eN]
    refine for_it (walk_range (lo := 0) (n := d + 1)) (fun i σ' H' => ∃ v5 ts vs, σ' = [some (.ref p), some (.int (n : Int)), some (.int (m : Int)), some (.ref th), some (.ref vl), v5] ∧ But p H H' ∧ Pot H' p ∧ H' vl = some (.lst (ts.map V.ref)) ∧ Paired (fun t v => TA H' p t (cutW m v) ∧ TA H' vl t (cutW m v)) ts vs ∧ vs.length = i ∧ ∀ v ∈ vs, v ∈ toldB ∨ Drawn v)
      ⟨none, [], [], rfl, B3.trans hB4.1, hB4.2, hB4.1 _ _ nvp hv3, .nil, rfl, fun v hv => nomatch hv⟩ (fun _ _ _ _ _ => trivial) ?_ ?_
    · rintro i x σ' _ H5 hi ⟨v5, ts, vs, rfl, B5, P5, hv5, W5, lv, are⟩ ⟨rfl, rfl⟩
      have lt : ts.length = i := (Paired.len W5).trans lv
      refine ⟨_, rfl, .inl ⟨rfl, _, SqL.of hv5⟩, _, rfl, _, rfl, p, m, rfl, P5, by omega, by omega, fun H6 t v hB6 hT6 hA6 hD6 => ?_⟩
      have hv6 := hB6.1 _ _ nvp hv5
      refine ⟨vl, _, _, rfl, rfl, hv6, by rw [List.length_map, lt, sizeLine_eq]; omega, ?_⟩
      have bvl : But vl H6 (upd H6 vl (.lst (ts.map V.ref ++ [V.ref t]))) := fun c o nn e => by rw [upd_ne nn]; exact e
      have T6 := hA6 vl (by rw [hv5]; exact fun z => nomatch z)
      refine ⟨_, ts ++ [t], vs ++ [v], rfl, but_mut (B5.trans hB6.1) hvlH, hB6.2.upd nvp.symm, by rw [upd_same, List.map_append] <;> rfl, ?_, by rw [List.length_append, lv] <;> rfl, fun y hy => ?_⟩
      · exact Paired.snoc (Paired.mono W5 fun _ _ q => ⟨(q.1.but hB6.1).but2 (q.2.but2 q.1 hB6.1) bvl, (q.2.but2 q.1 hB6.1).but bvl⟩) ⟨hT6.but2 T6 bvl, T6.but bvl⟩
      · rcases List.mem_append.mp hy with z | z
        · exact are y z
        · rw [List.mem_singleton.mp z]; exact hD6
    rintro σ' H5 ⟨v5, ts, vs, rfl, B5, P5, hv5, W5, lv, are⟩
    refine ⟨_, rfl, _, rfl, _, rfl, by show 3 ≤ sizeLine; decide, fun t ht => ?_⟩
    have s6 : Same H5 (upd H5 t (.tup [V.int (m : Int), V.ref th, V.ref vl])) := same_new ht
    exact k _ t m vl ts vs ⟨B5.trans (But.of s6), P5.mono s6⟩ ⟨hm, ⟨th, upd_same⟩, s6 _ _ hv5, Paired.mono W5 fun _ _ q => q.1.mono s6, are, nvp⟩ (by omega) (by omega)
end
end K81
end
section
set_option Elab.async false
set_option maxRecDepth 100000
set_option maxHeartbeats 4000000
set_option linter.all false
set_option pp.maxSteps 1500
set_option pp.deepTerms false
/-! _law_read_by -/
namespace K81
open PySem PySem.Spec PyProof.Rows L2 K81M NdefX LamX
/-- the law's list of told machines -/
def LV (H : Hp) (p vl : Addr) (ws : List View) : Prop := ∃ ts : List Addr, H vl = some (.lst (ts.map V.ref)) ∧ Paired (TA H p) ts ws
theorem LV.mono {H H' : Hp} {p vl : Addr} {ws : List View} (h : LV H p vl ws) (e : Same H H') : LV H' p vl ws := let ⟨ts, h1, h2⟩ := h; ⟨ts, e _ _ h1, Paired.mono h2 fun _ _ q => q.mono e⟩
def letV (v : View) (b : List Nat) : Prop := run v.1 0 b ∈ v.2
/-- one sign more is read -/
def stepR (ws : List View) (m n : Nat) (F : List Nat → Prop) (s : Nat) : List Nat → Prop := fun w => ∃ a b, F a ∧ w = a ++ b ∧ w.length ≤ n ∧ b ∈ wordsTo m n ∧ letV (ws.getD s ([], [])) b
def RdB (ws : List View) (m n : Nat) (u : List Nat) : List Nat → Prop := u.foldl (stepR ws m n) fun w => w = []
theorem RdB_snoc {ws : List View} {m n : Nat} {u : List Nat} {s : Nat} : RdB ws m n (u ++ [s]) = stepR ws m n (RdB ws m n u) s := by
  unfold RdB
  rw [List.foldl_append] <;> rfl
theorem RdB_in {ws : List View} {m n : Nat} : ∀ {u w : List Nat}, RdB ws m n u w → w ∈ wordsTo m n := by
  intro u
  have key : ∀ (u : List Nat) (F : List Nat → Prop), (∀ w, F w → w ∈ wordsTo m n) → ∀ w, u.foldl (stepR ws m n) F w → w ∈ wordsTo m n := by
    intro u
    induction u with
    | nil => exact fun F hF w h => hF w h
    | cons s u ih =>
      intro F hF
      refine ih _ fun w h => ?_
      obtain ⟨a, b, ha, rfl, hl, hb, _⟩ := h
      refine wordsTo_mem.mpr ⟨hl, fun l hl => ?_⟩
      rcases List.mem_append.mp hl with z | z
      · exact (wordsTo_mem.mp (hF a ha)).2 l z
      · exact (wordsTo_mem.mp hb).2 l z
  intro w h
  exact key u _ (fun w hw => by rw [hw]; exact wordsTo_mem.mpr ⟨Nat.zero_le _, fun l hl => nomatch hl⟩) w h
theorem wS_app (u v : List Nat) : wS u ++ wS v = wS (u ++ v) := by
  unfold wS
  show (⟨(u.map fun l => 97 + l).toArray ++ (v.map fun l => 97 + l).toArray⟩ : Str) = _
  congr 1
  simp
theorem wS_pre : ∀ {ks : List Str}, (∀ k ∈ ks, ∃ w, k = wS w) → ∃ rs : List (List Nat), ks = rs.map wS
  | [], _ => ⟨[], rfl⟩
  | k :: ks, h => by
    obtain ⟨w, rfl⟩ := h k List.mem_cons_self
    obtain ⟨rs, rfl⟩ := wS_pre fun k hk => h k (List.mem_cons_of_mem _ hk)
    exact ⟨w :: rs, rfl⟩
theorem wS_inj {u v : List Nat} (h : wS u = wS v) : u = v := by
  unfold wS at h
  injection h with h
  have h2 := congrArg Array.toList h
  simp only at h2
  exact (List.map_inj_right (fun a b (e : 97 + a = 97 + b) => by omega)).mp h2
section
variable {P : Program} {w : World} {K : PySem.W.Frag} {mg : Str → Option Value} {base : Heap}
def spReadBy : Sp := fun vs H Q _ => ∃ (p vl : Addr) (m n : Nat) (ws : List View) (u : List Nat), vs = [.ref vl, .int (m : Int), .str (wS u), .int (n : Int)] ∧ LV H p vl ws ∧ (∀ v ∈ ws, VOk m v) ∧ 1 ≤ m ∧ m ≤ 2 ∧ n ≤ 5 ∧ (∀ l ∈ u, l < ws.length) ∧ ws.length ≤ 3 ∧ u.length ≤ 60 ∧
  ∀ H' r rs, Same H H' → H' r = some (.lst (txts rs)) → (∀ w, w ∈ rs ↔ RdB ws m n u w) → Q (.ref r) H'
abbrev nmRd : List Str := ["_law_views", "_law_letters", "_law_word", "_law_most", "_law_found", "_law_spot", "_law_pieces", "_law_longer", "_law_ahead", "_law_one", "_law_piece"]
theorem scRd : FnScope nmRd ["_law_views", "_law_letters", "_law_word", "_law_most"] (defScope (top 67)) := ⟨rfl, rfl, rfl, by decide +kernel, rfl, by decide +kernel, by decide +kernel⟩
theorem c_read_by (T : Txt K mg) : Cal P w K mg base 4 "_law_read_by" ["_law_views", "_law_letters", "_law_word", "_law_most"] spReadBy := by
  refine cal (top 67) T 42 40 rfl rfl scRd (fun _ _ _ _ _ _ us hl => match us, hl with | [_, _, _, _], _ => rfl) (fun vs H Q E h => ?_) (fun cdv A outer s H vs Q E hr h => ?_)
  · obtain ⟨p, vl, m, n, ws, u, rfl, _⟩ := h
    rfl
  · obtain ⟨p, vl, m, n, ws, u, rfl, hV, hok, m1, m2, n5, hu, w3, few, k⟩ := h
    have nd := scRd.nd
    have hun := hr.units
    refine ⟨_, pss_cons (ps_set (i := 4) nd rfl (Or.inl rfl) (pe_lst (pa_cons pe_str pa_nil)))
      (pss_cons (ps_for PassesOwn.never rfl (pi_list (pe_c (c_lspots T) hr (by decide) (pa_cons (pv 2) pa_nil))) (pg_name (i := 5) nd rfl (Or.inr rfl))
        (pss_cons (ps_setLc (i := 6) (own := [("_law_one", 9)]) (g := gName 9) rfl nd rfl rfl rfl (pi_list (pe_c (c_lwords T) hr (by decide) (pa_cons (pv 1) (pa_cons (pv 3) pa_nil)))) (blkOk_by (N := nmRd) (sc := defScope (top 67)) (by decide +kernel)) (fun _ _ _ _ _ => pg_name (i := 9) nd rfl (Or.inl rfl))
            (fun _ _ _ _ _ => pts_one (pt_val (pe_c (c_llets T) hr (by decide) (pa_cons (pe_ix (ix_sqk (K := K) rfl) (pv 0) (pv 5) (fun _ _ => rfl)) (pa_cons (pv 9) pa_nil))))) (fun _ _ _ _ _ => pv 9))
        (pss_cons (ps_set (i := 7) nd rfl (Or.inl rfl) (pe_lst pa_nil))
        (pss_cons (ps_for PassesOwn.never rfl (pi_list (pv 4)) (pg_name (i := 8) nd rfl (Or.inr rfl))
          (pss_one (ps_expr (pe_bm PySem.F.plainAttrs_list PySem.F.slot_list_extend PySem.F.type_list_extend mt_extend (pv 7) (pa_cons (pe_lc (own := [("_law_piece", 10)]) (g := gName 10) rfl nd (pi_list (pv 6)) (blkOk_by (N := nmRd) (sc := defScope (top 67)) (by decide +kernel)) (fun _ _ _ _ _ => pg_name (i := 10) nd rfl (Or.inl rfl))
            (fun _ _ _ _ _ => pts_one (pt_cmpR op_le (pe_callB call_len_str (by rfl) (T.f 0 rfl) boot_len (pa_cons (pe_op op_add_str (pv 8) (pv 10)) pa_nil)) (pv 3) (nomark _))) (fun _ _ _ _ _ => pe_op op_add_str (pv 8) (pv 10))) pa_nil)))))
        (pss_one (ps_set (i := 4) nd rfl (Or.inl rfl) (pe_callB (cr_sortedG (Z := ZS P w) rfl hun) (by rfl) (T.f 1 rfl) boot_sorted (pa_cons (pe_callTy (cr_setL (Z := ZS P w) rfl) (by rfl) (T.f 2 rfl) boot_set (pa_cons (pv 7) pa_nil)) pa_nil))))))))
      (pss_one (ps_ret (pv 4)))), ?_⟩
    refine ⟨by show 1 ≤ sizeLine; decide, fun fp hfp => ?_⟩
    have s0 : Same H (upd H fp (.lst [V.str ""])) := same_new hfp
    have hf0 : (upd H fp (.lst [V.str ""])) fp = some (.lst (txts [[]])) := upd_same
    generalize upd H fp (.lst [V.str ""]) = H0 at s0 hf0 ⊢
    refine ⟨_, rfl, u, rfl, fun l hl => by have := hu l hl; omega, few, fun H1 sp s1 hs1 hs2 => ⟨sp, rfl, ⟨_, SqL.of hs2⟩, ?_⟩⟩
    have s01 := s0.trans s1
    refine for_list (xs := (toI u).map V.int) (fun i σ' H' => ∃ v5 v6 v7 v8 fp rs, σ' = [some (.ref vl), some (.int (m : Int)), some (.str (wS u)), some (.int (n : Int)), some (.ref fp), v5, v6, v7, v8, none, none] ∧ Same H1 H' ∧ H' fp = some (.lst (txts rs)) ∧ rs.Nodup ∧ ∀ w, w ∈ rs ↔ RdB ws m n (u.take i) w)
      ⟨none, none, none, none, fp, [[]], rfl, Same.refl _, s1 _ _ hf0, List.nodup_cons.mpr ⟨by simp, List.nodup_nil⟩, fun w => List.mem_singleton⟩ (fun i σ' H' _ ⟨_, _, _, _, _, _, _, s2, _⟩ => SqL.of (s2 _ _ hs2)) ?_ ?_
    · rintro i x σ' H2 hx ⟨v5, v6, v7, v8, fp, rs, rfl, s2, hf, ndr, hrs⟩
      obtain ⟨z, hz, rfl⟩ := map_int_get hx
      obtain ⟨l, hl, rfl⟩ := toI_get hz
      have lrs : rs.length ≤ 64 := by
        have h1 := nodup_le ndr (U := wordsTo m n) fun w hw => RdB_in ((hrs w).mp hw)
        have h2 := Nat.le_trans (wordsTo_le m2 n) (Nat.le_trans (Nat.pow_le_pow_right (by decide) (show n + 1 ≤ 6 by omega)) (show 2 ^ 6 ≤ 64 by decide))
        omega
      refine ⟨_, rfl, _, rfl, m, n, rfl, m1, m2, n5, fun H3 wp s3 hwp0 hwp => ⟨wp, rfl, ⟨_, SqL.of hwp⟩, fun D hD => ?_⟩⟩
      have hlw := hu l (List.mem_of_getElem? hl)
      obtain ⟨v, hv⟩ : ∃ v, ws[l]? = some v := ⟨_, List.getElem?_eq_getElem hlw⟩
      have ev : ws.getD l ([], []) = v := by rw [List.getD_eq_getElem?_getD, hv] <;> rfl
      have vo := hok v (List.mem_of_getElem? hv)
      have sA := (s01.trans s2).trans s3
      obtain ⟨ts, ht1, ht2⟩ := hV.mono sA
      obtain ⟨t, htt, hTt⟩ := Paired.get' ht2 hv
      let lt : List Nat → Bool := fun b => decide (run v.1 0 b ∈ v.2)
      refine lc_list (xs := txts (wordsTo m n)) (fun i H4 => ∃ acc, LcP H3 D (fun i acc _ => acc = txts (((wordsTo m n).take i).filter lt)) i H4 acc) (lcP_start hD fun _ _ => rfl) (fun i H4 _ ⟨acc, p⟩ => SqL.of (p.all _ _ hwp)) ?_ ?_
      · rintro i x H4 hx2 ⟨acc, p4⟩
        obtain ⟨b, hb, rfl⟩ : ∃ b, (wordsTo m n)[i]? = some b ∧ x = V.str (wS b) := by
          rw [List.getElem?_map] at hx2
          cases e : (wordsTo m n)[i]? with
          | none => rw [e] at hx2; cases hx2
          | some w => rw [e] at hx2; exact ⟨w, rfl, (Option.some.inj hx2).symm⟩
        have hbW := wordsTo_mem.mp (List.mem_of_getElem? hb)
        refine ⟨rfl, _, rfl, _, rfl, vl, _, _, _, rfl, rfl, .inl (SqL.of (p4.all _ _ ht1)), atI_nat (refs_at htt), _, rfl, p, t, m, v, b, rfl, hTt.mono p4.all, vo, ⟨m1, by omega, hbW.2, by omega⟩, fun H5 s5 => ⟨_, rfl, ?_⟩⟩
        have ef : ((wordsTo m n).take (i + 1)).filter lt = ((wordsTo m n).take i).filter lt ++ if lt b = true then [b] else [] := by
          rw [List.take_add_one, hb, List.filter_append]
          refine congrArg _ ?_
          show List.filter lt [b] = _
          by_cases d : lt b = true
          · rw [List.filter_cons_of_pos d, if_pos d] <;> rfl
          · rw [List.filter_cons_of_neg d, if_neg d] <;> rfl
        have hiW := (List.getElem?_eq_some_iff.mp hb).1
        have lW := Nat.le_trans (wordsTo_le m2 n) (Nat.le_trans (Nat.pow_le_pow_right (by decide) (show n + 1 ≤ 6 by omega)) (show 2 ^ 6 ≤ 64 by decide))
        refine ite2 (fun d => ?_) (fun d => ?_)
        · refine ⟨_, rfl, lcP_put p4 hiW (by rw [sizeLine_eq]; omega) s5 ?_⟩
          rw [p4.is, ef, if_pos (show lt b = true from d)]
          unfold txts
          rw [List.map_append] <;> rfl
        · refine lcP_skip p4 s5 ?_
          rw [p4.is, ef, if_neg (show ¬ lt b = true from d), List.append_nil]
      rintro H4 ⟨acc, p4⟩
      have eacc := p4.is
      unfold txts at eacc
      rw [List.length_map, List.take_length] at eacc
      subst eacc
      have hD4 := p4.at_
      have s4 := p4.all
      generalize hps : (wordsTo m n).filter lt = ps at hD4
      have lps : ps.length ≤ 64 := by
        rw [← hps]
        have h1 := List.length_filter_le lt (wordsTo m n)
        have h2 := Nat.le_trans (wordsTo_le m2 n) (Nat.le_trans (Nat.pow_le_pow_right (by decide) (show n + 1 ≤ 6 by omega)) (show 2 ^ 6 ≤ 64 by decide))
        omega
      clear p4
      refine ⟨by show 0 ≤ sizeLine; decide, fun gp hgp => ?_⟩
      have s5 : Same H4 (upd H4 gp (.lst [])) := same_new hgp
      have hg5 : (upd H4 gp (.lst [])) gp = some (.lst []) := upd_same
      have s24 := s3.trans s4
      have hg2 : H2 gp = none := Same.none s24 hgp
      have hf4 := s24 _ _ hf
      have nfg : fp ≠ gp := ne_of_none hf4 hgp
      have nDg : D ≠ gp := ne_of_none hD4 hgp
      have hf5 := s5 _ _ hf4
      have hD5 := s5 _ _ hD4
      have s25 := s24.trans s5
      generalize upd H4 gp (.lst []) = H5 at hg5 hf5 hD5 s25 ⊢
      let ext : List Nat → List (List Nat) := fun a => (ps.filter fun b => decide ((a ++ b).length ≤ n)).map fun b => a ++ b
      have lext : ∀ a, (ext a).length ≤ 64 := fun a => by
        show (List.map _ _).length ≤ 64
        rw [List.length_map]
        have := List.length_filter_le (fun b => decide ((a ++ b).length ≤ n)) ps
        omega
      have lfm : ∀ as : List (List Nat), (as.flatMap ext).length ≤ as.length * 64 := fun as => by
        induction as with
        | nil => simp
        | cons a as ih =>
          rw [List.flatMap_cons, List.length_append, List.length_cons, Nat.succ_mul]
          have := lext a
          omega
      refine ⟨_, rfl, fp, rfl, ⟨_, SqL.of hf5⟩, ?_⟩
      refine for_list (xs := txts rs) (fun j σ' H6 => ∃ v8, σ' = [some (.ref vl), some (.int (m : Int)), some (.str (wS u)), some (.int (n : Int)), some (.ref fp), some (.int (l : Int)), some (.ref D), some (.ref gp), v8, none, none] ∧ Same H2 H6 ∧ H6 fp = some (.lst (txts rs)) ∧ H6 D = some (.lst (txts ps)) ∧ H6 gp = some (.lst (txts ((rs.take j).flatMap ext))))
        ⟨v8, rfl, s25, hf5, hD5, hg5⟩ (fun j σ' H6 _ ⟨_, _, _, h, _⟩ => SqL.of h) ?_ ?_
      · rintro j x σ' H6 hx3 ⟨v8, rfl, s6, hf6, hD6, hg6⟩
        obtain ⟨a, ha, rfl⟩ : ∃ a, rs[j]? = some a ∧ x = V.str (wS a) := by
          rw [List.getElem?_map] at hx3
          cases e : rs[j]? with
          | none => rw [e] at hx3; cases hx3
          | some w => rw [e] at hx3; exact ⟨w, rfl, (Option.some.inj hx3).symm⟩
        have haW := wordsTo_mem.mp (RdB_in ((hrs a).mp (List.mem_of_getElem? ha)))
        refine ⟨_, rfl, .inl ⟨rfl, _, SqL.of hg6⟩, _, rfl, D, rfl, ⟨_, SqL.of hD6⟩, fun D2 hD2 => ?_⟩
        refine lc_list (xs := txts ps) (fun i H7 => ∃ acc, LcP H6 D2 (fun i acc _ => acc = txts (((ps.take i).filter fun b => decide ((a ++ b).length ≤ n)).map fun b => a ++ b)) i H7 acc) (lcP_start hD2 fun _ _ => rfl) (fun i H7 _ ⟨acc, p⟩ => SqL.of (p.all _ _ hD6)) ?_ ?_
        · rintro i x H7 hx4 ⟨acc, p7⟩
          obtain ⟨b, hb, rfl⟩ : ∃ b, ps[i]? = some b ∧ x = V.str (wS b) := by
            rw [List.getElem?_map] at hx4
            cases e : ps[i]? with
            | none => rw [e] at hx4; cases hx4
            | some w => rw [e] at hx4; exact ⟨w, rfl, (Option.some.inj hx4).symm⟩
          have hi := (List.getElem?_eq_some_iff.mp hb).1
          have hbW : b.length ≤ n := by
            have := List.mem_of_getElem? hb
            rw [← hps] at this
            exact (wordsTo_mem.mp (List.mem_filter.mp this).1).1
          have lab : (wS a).length + (wS b).length ≤ sizeLine := by rw [wS_len, wS_len, sizeLine_eq]; omega
          have ef : (((ps.take (i + 1)).filter fun b => decide ((a ++ b).length ≤ n)).map fun b => a ++ b) = (((ps.take i).filter fun b => decide ((a ++ b).length ≤ n)).map fun b => a ++ b) ++ if (a ++ b).length ≤ n then [a ++ b] else [] := by
            rw [List.take_add_one, hb, List.filter_append, List.map_append]
            refine congrArg _ ?_
            show List.map _ (List.filter _ [b]) = _
            by_cases d : (a ++ b).length ≤ n
            · rw [List.filter_cons_of_pos (by exact decide_eq_true d), if_pos d] <;> rfl
            · rw [List.filter_cons_of_neg (by simpa using d), if_neg d] <;> rfl
          refine ⟨rfl, _, rfl, _, rfl, _, _, rfl, rfl, lab, _, rfl, ?_⟩
          rw [wS_app]
          refine ⟨by rw [wS_len, List.length_append, sizeLine_eq]; omega, _, rfl, _, _, rfl, rfl, _, rfl, ?_⟩
          rw [wS_len]
          refine ite2 (fun d => ?_) (fun d => ?_)
          · have d : (a ++ b).length ≤ n := by have := of_decide_eq_true d; omega
            refine ⟨_, rfl, _, rfl, _, _, rfl, rfl, lab, ?_⟩
            rw [wS_app]
            refine lcP_put p7 hi (by rw [sizeLine_eq]; omega) (Same.refl _) ?_
            rw [p7.is, ef, if_pos d]
            unfold txts
            rw [List.map_append] <;> rfl
          · have d : ¬ (a ++ b).length ≤ n := fun z => d (decide_eq_true (by omega))
            refine lcP_skip p7 (Same.refl _) ?_
            rw [p7.is, ef, if_neg d, List.append_nil]
        rintro H7 ⟨acc, p7⟩
        have e7 := p7.is
        unfold txts at e7
        rw [List.length_map, List.take_length] at e7
        have hg7 := p7.all _ _ hg6
        have tk : (rs.take (j + 1)).flatMap ext = (rs.take j).flatMap ext ++ ext a := by
          rw [List.take_add_one, ha, List.flatMap_append]
          simp
        have lj : ((rs.take j).flatMap ext).length ≤ 64 * 64 := by
          have h1 := lfm (rs.take j)
          have h2 : (rs.take j).length ≤ 64 := by rw [List.length_take]; omega
          have := Nat.mul_le_mul_right 64 h2
          omega
        refine ⟨gp, D2, _, _, rfl, rfl, hg7, p7.at_, ?_, _, rfl, same_mut (s6.trans p7.all) hg2, ?_, ?_, ?_⟩
        · rw [e7]
          have := lext a
          show (txts _).length + (txts (ext a)).length ≤ sizeLine
          unfold txts
          rw [List.length_map, List.length_map, sizeLine_eq]
          omega
        · rw [upd_ne nfg]; exact p7.all _ _ hf6
        · rw [upd_ne nDg]; exact p7.all _ _ hD6
        · rw [upd_same, e7, tk]
          show some (HO.lst (txts ((rs.take j).flatMap ext) ++ txts (ext a))) = _
          unfold txts
          rw [← List.map_append]
      rintro σ' H6 ⟨v8, rfl, s6, hf6, hD6, hg6⟩
      unfold txts at hg6
      rw [List.length_map, List.take_length] at hg6
      have etv : ∀ ws : List (List Nat), txts ws = (ws.map wS).map (ZS P w).tv := fun ws => by
        unfold txts
        rw [List.map_map] <;> rfl
      have mem_ext : ∀ a b, b ∈ ext a ↔ ∃ c, c ∈ ps ∧ (a ++ c).length ≤ n ∧ a ++ c = b := fun a b => by
        show b ∈ List.map _ _ ↔ _
        rw [List.mem_map]
        constructor
        · rintro ⟨c, hc, e⟩
          obtain ⟨h1, h2⟩ := List.mem_filter.mp hc
          exact ⟨c, h1, of_decide_eq_true h2, e⟩
        · rintro ⟨c, h1, h2, e⟩
          exact ⟨c, List.mem_filter.mpr ⟨h1, decide_eq_true h2⟩, e⟩
      have mem_new : ∀ b, b ∈ rs.flatMap ext ↔ RdB ws m n (u.take (i + 1)) b := fun b => by
        rw [List.take_add_one, hl]
        show _ ↔ RdB ws m n (u.take i ++ [l]) b
        rw [RdB_snoc, List.mem_flatMap]
        constructor
        · rintro ⟨a, ha, h⟩
          obtain ⟨c, h1, h2, e⟩ := (mem_ext a b).mp h
          rw [← hps] at h1
          obtain ⟨h3, h4⟩ := List.mem_filter.mp h1
          exact ⟨a, c, (hrs a).mp ha, e.symm, by rw [← e]; exact h2, h3, by unfold letV; rw [ev]; exact of_decide_eq_true h4⟩
        · rintro ⟨a, c, h1, e, h2, h3, h4⟩
          unfold letV at h4
          rw [ev] at h4
          exact ⟨a, (hrs a).mpr h1, (mem_ext a b).mpr ⟨c, by rw [← hps]; exact List.mem_filter.mpr ⟨h3, decide_eq_true h4⟩, by rw [← e]; exact h2, e.symm⟩⟩
      have lW := Nat.le_trans (wordsTo_le m2 n) (Nat.le_trans (Nat.pow_le_pow_right (by decide) (show n + 1 ≤ 6 by omega)) (show 2 ^ 6 ≤ 64 by decide))
      have hg6 : H6 gp = some (.lst (((rs.flatMap ext).map wS).map (ZS P w).tv)) := by rw [← etv]; exact hg6
      refine ⟨_, rfl, gp, (rs.flatMap ext).map wS, rfl, SqL.of hg6, ⟨(wordsTo m n).map wS, fun k hk => ?_, by rw [List.length_map]; omega⟩, fun a ha => ⟨a, _, rfl, upd_same, fun q ks hq ndk hk => ?_⟩⟩
      · obtain ⟨b, hb, rfl⟩ := List.mem_map.mp hk
        exact List.mem_map.mpr ⟨b, RdB_in ((mem_new b).mp hb), rfl⟩
      have s7 : Same H6 (upd H6 a (SetGO (ZS P w) a ((rs.flatMap ext).map wS))) := same_new ha
      have s8 := Same.up (o := .lst (ks.map (ZS P w).tv)) s7 hq
      obtain ⟨rs', rfl⟩ := wS_pre (ks := ks) fun k hk' => by
        obtain ⟨b, _, e⟩ := List.mem_map.mp ((hk k).mp hk')
        exact ⟨b, e.symm⟩
      refine ⟨_, _, _, _, q, rs', rfl, s2.trans (s6.trans s8), ?_, ?_, fun b => ?_⟩
      · rw [upd_same, etv]
      · exact (List.pairwise_map.mp ndk).imp fun h e => h (by rw [e])
      · rw [← mem_new b]
        constructor
        · intro h
          obtain ⟨c, hc, e⟩ := List.mem_map.mp ((hk (wS b)).mp (List.mem_map.mpr ⟨b, h, rfl⟩))
          rw [← wS_inj e]
          exact hc
        · intro h
          obtain ⟨c, hc, e⟩ := List.mem_map.mp ((hk (wS b)).mpr (List.mem_map.mpr ⟨b, h, rfl⟩))
          rw [← wS_inj e]
          exact hc
    rintro σ' H2 ⟨v5, v6, v7, v8, fp, rs, rfl, s2, hf, ndr, hrs⟩
    rw [ivs_len, List.take_length] at hrs
    exact ⟨_, rfl, k _ fp rs (s01.trans s2) hf hrs⟩
end
end K81
end
section
set_option Elab.async false
set_option maxRecDepth 100000
set_option maxHeartbeats 4000000
set_option linter.all false
set_option pp.maxSteps 1500
set_option pp.deepTerms false
/-! _law_is_opened -/
namespace K81
open PySem PySem.Spec PyProof.Rows L2 K81M NdefX LamX
abbrev Nd : Type := Nat × Nat
/-- what a place and a state lead to, one view -/
def opNext1 (w : List Nat) (v : View) (pl further : Nat) (k : Nat) : List Nd := (List.range k).filterMap fun j => if run v.1 0 ((w.drop pl).take j) ∈ v.2 then some (pl + j, further) else none
def opNext (ws : List View) (ov : View) (w : List Nat) (x : Nd) (k : Nat) : List Nd := (List.range k).flatMap fun s => opNext1 w (ws.getD s ([], [])) x.1 (go ov.1 x.2 s) (w.length + 1 - x.1)
def IsOp (ws : List View) (ov : View) (w : List Nat) (r : List Nd) : Bool := r.any fun x => decide (x.1 = w.length) && decide (x.2 ∈ ov.2)
abbrev pd (x : Nd) : PyData := .tuple [.int (x.1 : Int), .int (x.2 : Int)]
theorem pd_eqv {x y : Nd} : PyData.eqv (pd x) (pd y) = decide (x = y) := by
  obtain ⟨a, b⟩ := x
  obtain ⟨c, d⟩ := y
  have e : PyData.eqv (pd (a, b)) (pd (c, d)) = (((a : Int) == (c : Int)) && (((b : Int) == (d : Int)) && true)) := by
    simp only [pd, PyData.eqv, PyData.eqvAll]
  rw [e, Bool.and_true]
  by_cases h : a = c
  · by_cases h2 : b = d
    · subst h h2; simp
    · have : ¬ ((b : Int) = (d : Int)) := by omega
      simp [h2, this]
  · have : ¬ ((a : Int) = (c : Int)) := by omega
    simp [h, this]
theorem pds_any {o : List Nd} {x : Nd} : (o.map pd).any (fun z => PyData.eqv z (pd x)) = decide (x ∈ o) := by
  induction o with
  | nil => rfl
  | cons a o ih =>
    rw [List.map_cons, List.any_cons, ih, pd_eqv]
    by_cases h : a = x
    · subst h; simp
    · have h' : ¬ x = a := fun z => h z.symm
      simp [h, h']
theorem pd_shaped {x : Nd} : SeqAt.shaped (pd x) = true := by
  obtain ⟨a, b⟩ := x
  simp [SeqAt.shaped, PyData.canLay0, PyData.canLayAll0, PyData.depth, PyData.depthAll]
theorem pds_lay : ∀ {o : List Nd}, PyData.canLayAll0 (o.map pd) = true ∧ PyData.depthAll (o.map pd) ≤ 3
  | [] => by simp [PyData.canLayAll0, PyData.depthAll]
  | x :: o => by
    obtain ⟨h1, h2⟩ := pds_lay (o := o)
    constructor
    · simp [PyData.canLayAll0, PyData.canLay0, h1]
    · simp [PyData.depthAll, PyData.depth]
      omega
theorem pds_shaped {o : List Nd} : SeqAt.shaped (.list (o.map pd)) = true := by
  obtain ⟨h1, h2⟩ := pds_lay (o := o)
  simp [SeqAt.shaped, PyData.canLay0, PyData.depth, h1]
  omega
abbrev PrAt (H : Hp) (a : Addr) (x : Nd) : Prop := H a = some (.tup [.int (x.1 : Int), .int (x.2 : Int)])
theorem dp_pair {K : PySem.W.Frag} {H : Hp} {a : Addr} {x : Nd} (h : PrAt H a x) : Dp K H (.ref a) (pd x) := .tup (SqT.of h) (.cons (.int _) (.cons (.int _) .nil))
theorem dp_pairs {K : PySem.W.Frag} {H : Hp} : ∀ {as : List Addr} {o : List Nd}, Paired (PrAt H) as o → DpAll K H (as.map V.ref) (o.map pd)
  | _, _, .nil => .nil
  | _, _, .cons h t => .cons (dp_pair h) (dp_pairs t)
theorem opNext1_succ {w : List Nat} {v : View} {pl f k : Nat} : opNext1 w v pl f (k + 1) = opNext1 w v pl f k ++ if run v.1 0 ((w.drop pl).take k) ∈ v.2 then [(pl + k, f)] else [] := by
  unfold opNext1
  rw [List.range_succ, List.filterMap_append]
  congr 1
  by_cases c : run v.1 0 ((w.drop pl).take k) ∈ v.2
  · rw [List.filterMap_cons, List.filterMap_nil, if_pos c, if_pos c]
  · rw [List.filterMap_cons, List.filterMap_nil, if_neg c, if_neg c]
theorem opNext_succ {ws : List View} {ov : View} {w : List Nat} {x : Nd} {k : Nat} : opNext ws ov w x (k + 1) = opNext ws ov w x k ++ opNext1 w (ws.getD k ([], [])) x.1 (go ov.1 x.2 k) (w.length + 1 - x.1) := by
  unfold opNext
  rw [List.range_succ, List.flatMap_append]
  simp
theorem opNext1_mem {w : List Nat} {v : View} {pl f k : Nat} {y : Nd} : y ∈ opNext1 w v pl f k ↔ ∃ j, j < k ∧ run v.1 0 ((w.drop pl).take j) ∈ v.2 ∧ y = (pl + j, f) := by
  unfold opNext1
  rw [List.mem_filterMap]
  constructor
  · rintro ⟨j, hj, h⟩
    split at h
    · rename_i c
      exact ⟨j, List.mem_range.mp hj, c, (Option.some.inj h).symm⟩
    · cases h
  · rintro ⟨j, hj, c, h⟩
    exact ⟨j, List.mem_range.mpr hj, by rw [if_pos c, h]⟩
theorem opNext_mem {ws : List View} {ov : View} {w : List Nat} {x : Nd} {k : Nat} {y : Nd} : y ∈ opNext ws ov w x k ↔ ∃ s, s < k ∧ y ∈ opNext1 w (ws.getD s ([], [])) x.1 (go ov.1 x.2 s) (w.length + 1 - x.1) := by
  unfold opNext
  rw [List.mem_flatMap]
  constructor
  · rintro ⟨s, hs, h⟩
    exact ⟨s, List.mem_range.mp hs, h⟩
  · rintro ⟨s, hs, h⟩
    exact ⟨s, List.mem_range.mpr hs, h⟩
theorem cut_wS {u : List Nat} {a j : Nat} (h : a + j ≤ u.length) : cutS (wS u) (some ((a : Nat) : Int)) (some ((a : Int) + (j : Int))) = wS ((u.drop a).take j) := by
  unfold cutS
  have e : (a : Int) + (j : Int) = ((a + j : Nat) : Int) := by omega
  rw [e, HT.sIx_nat, HT.sIx_nat, wS_len, Nat.min_eq_left (by omega), Nat.min_eq_left (by omega)]
  unfold wS
  show (⟨((((u.map fun l => 97 + l).toArray).toList.drop a).take (a + j - a)).toArray⟩ : Str) = _
  rw [List.toList_toArray, ← List.map_drop, ← List.map_take, Nat.add_sub_cancel_left]
theorem nd_few {o : List Nd} {n : Nat} (nd : o.Nodup) (h : ∀ x ∈ o, x.1 ≤ n ∧ x.2 < 2) (h5 : n ≤ 5) : o.length ≤ 12 := by
  have := nodup_le nd (U := (List.range (n + 1)).flatMap fun p => [(p, 0), (p, 1)]) fun x hx => by
    obtain ⟨h1, h2⟩ := h x hx
    refine List.mem_flatMap.mpr ⟨x.1, List.mem_range.mpr (by omega), ?_⟩
    obtain ⟨a, b⟩ := x
    have hb : b = 0 ∨ b = 1 := by have : b < 2 := h2; omega
    rcases hb with rfl | rfl
    · exact List.mem_cons_self
    · exact List.mem_cons_of_mem _ List.mem_cons_self
  have e : ((List.range (n + 1)).flatMap fun p => [(p, 0), (p, 1)]).length = 2 * (n + 1) := by
    generalize n + 1 = k
    induction k with
    | zero => rfl
    | succ k ih => rw [List.range_succ, List.flatMap_append, List.length_append, ih]; simp; omega
  omega
theorem OverOk.val {k : Nat} {v : View} (h : OverOk k v) : Valid k v.1 v.2 := by
  obtain ⟨r0, r1, e⟩ := h.two
  refine ⟨by rw [e]; exact Nat.zero_lt_succ _, fun r hr => ⟨(h.row r hr).1, fun q hq => by rw [e]; exact (h.row r hr).2 q hq⟩, fun q hq => ?_⟩
  rw [e]
  show q < 2
  rcases h.ends with z | z | z | z <;> rw [z] at hq <;> simp at hq <;> omega
section
variable {P : Program} {w : World} {K : PySem.W.Frag} {mg : Str → Option Value} {base : Heap}
def spIsOp : Sp := fun vs H Q _ => ∃ (p vl ot : Addr) (m : Nat) (ws : List View) (ov : View) (u : List Nat), vs = [.ref vl, .ref ot, .str (wS u)] ∧ LV H p vl ws ∧ (∀ v ∈ ws, VOk m v) ∧ 1 ≤ m ∧ m ≤ 2 ∧ TA H p ot ov ∧ OverOk ws.length ov ∧ 1 ≤ ws.length ∧ ws.length ≤ 3 ∧ (∀ l ∈ u, l < m) ∧ u.length ≤ 5 ∧
  ∀ H' r, Same H H' → Bfs (fun x => opNext ws ov u x ws.length) [(0, 0)] 0 r → Q (.bl (IsOp ws ov u r)) H'
abbrev nmIO : List Str := ["_law_views", "_law_over_here", "_law_word", "_law_found", "_law_at", "_law_place", "_law_state", "_law_spot", "_law_view", "_law_further", "_law_end"]
theorem scIO : FnScope nmIO ["_law_views", "_law_over_here", "_law_word"] (defScope sIsOpened) := ⟨rfl, rfl, rfl, by decide +kernel, rfl, by decide +kernel, by decide +kernel⟩
theorem c_is_opened (T : Txt K mg) : Cal P w K mg base 4 "_law_is_opened" ["_law_views", "_law_over_here", "_law_word"] spIsOp := by
  refine cal sIsOpened T 43 41 rfl rfl scIO (fun _ _ _ _ _ _ us hl => match us, hl with | [_, _, _], _ => rfl) (fun vs H Q E h => ?_) (fun cdv A outer s H vs Q E hr h => ?_)
  · obtain ⟨p, vl, ot, m, ws, ov, u, rfl, _⟩ := h
    rfl
  · obtain ⟨p, vl, ot, m, ws, ov, u, rfl, hV, hok, m1, m2, hO, ook, w1, w3, hu, u5, k⟩ := h
    have nd := scIO.nd
    have hun : (cxOf CX0 P w K mg base nmIO "_law_is_opened" (defScope sIsOpened) (He.ga K "_law_is_opened") cdv A outer s H E).nox.A.units + 65 < cLine := by have := hr.un; show (A.deeper _).units + 65 < cLine; omega
    refine ⟨_, pss_cons (ps_par (i := 3) (j := 4) rfl nd rfl rfl (by decide) rfl rfl (pa_cons (pe_lst (pa_cons (pe_tup (pa_cons pe_int (pa_cons pe_int pa_nil))) pa_nil)) (pa_cons pe_int pa_nil)) (by rfl))
      (pss_cons (ps_while PassesOwn.never (pt_cmpR op_lt (pv 4) (pe_callB call_len_seq (by rfl) (T.f 0 rfl) boot_len (pa_cons (pv 3) pa_nil)) (nomark _))
        (pss_cons (ps_asg (pe_ix ix_list (pv 3) (pv 4) (fun _ _ => rfl)) (pg_tup rfl (pgs_cons (pg_name (i := 5) nd rfl (Or.inl rfl)) (pgs_cons (pg_name (i := 6) nd rfl (Or.inl rfl)) pgs_nil))))
        (pss_cons (ps_set (i := 4) nd rfl (Or.inl rfl) (pe_op op_add (pv 4) pe_int))
        (pss_one (ps_for PassesOwn.never rfl (pi_enSq (K := K) rfl (by rfl) (T.f 11 rfl) (pa_cons (pv 0) pa_nil)) (pg_tup rfl (pgs_cons (pg_name (i := 7) nd rfl (Or.inl rfl)) (pgs_cons (pg_name (i := 8) nd rfl (Or.inl rfl)) pgs_nil)))
          (pss_cons (ps_set (i := 9) nd rfl (Or.inl rfl) (pe_ix ix_sq (pe_ix ix_sq (pe_ix ix_sq (pv 1) pe_int (fun _ _ => rfl)) (pv 6) (fun _ _ => rfl)) (pv 7) (fun _ _ => rfl)))
          (pss_one (ps_for PassesOwn.never rfl (pi_range2 rfl (T.f 12 rfl) (pa_cons (pv 5) (pa_cons (pe_op op_add (pe_callB call_len_str (by rfl) (T.f 0 rfl) boot_len (pa_cons (pv 2) pa_nil)) pe_int) pa_nil))) (pg_name (i := 10) nd rfl (Or.inl rfl))
            (pss_one (ps_if (PW.pt (pw_and (pt_val (pe_c (c_llets T) hr (by decide) (pa_cons (pv 8) (pa_cons (pe_slice sl_str (pv 2) (po_some (pv 5)) (po_some (pv 10))) pa_nil)))) (pw_and1 (pt_cmpR (op_notInD hun) (pe_tup (pa_cons (pv 10) (pa_cons (pv 9) pa_nil))) (pv 3) (by rfl)))))
              (pss_one (ps_expr (pe_bm PySem.F.plainAttrs_list PySem.F.slot_list_append PySem.F.type_list_append mt_append (pv 3) (pa_cons (pe_tup (pa_cons (pv 10) (pa_cons (pv 9) pa_nil))) pa_nil)))) pss_nil))))))))))
      (pss_one (ps_ret (pe_callB (cr_any rfl) (by rfl) (T.f 10 rfl) boot_any (pa_cons (pe_lc (own := [("_law_place", 5), ("_law_state", 6)]) (tt := tYes) rfl nd (pi_list (pv 3)) (blkOk_by (N := nmIO) (sc := defScope sIsOpened) (by decide +kernel))
          (fun _ _ _ _ _ => pg_tupk (K := K) (n := 2) rfl rfl (pgs_cons (pg_name (i := 5) nd rfl (Or.inl rfl)) (pgs_cons (pg_name (i := 6) nd rfl (Or.inl rfl)) pgs_nil))) (fun _ _ _ _ _ => pts_nil)
          (fun _ _ _ _ _ => pe_and (pe_cmpR op_eq (pv 5) (pe_callB call_len_str (by rfl) (T.f 0 rfl) boot_len (pa_cons (pv 2) pa_nil)) (nomark _)) (pe_one (pe_cmpR (op_in_seqk (K := K) rfl) (pv 6) (pe_ix (ix_sqk (K := K) rfl) (pv 1) pe_int (fun _ _ => rfl)) (by rfl))))) pa_nil))))), ?_⟩
    refine ⟨by show 2 ≤ sizeLine; decide, fun tp htp => ⟨by show 1 ≤ sizeLine; decide, fun fp hfp => ⟨_, _, rfl, ?_⟩⟩⟩
    have s0 : Same H (upd H tp (.tup [V.int 0, V.int 0])) := same_new htp
    have s1 := Same.up (o := HO.lst [V.ref tp]) s0 hfp
    have hfpH : H fp = none := Same.none s0 hfp
    have hf1 : (upd (upd H tp (.tup [V.int 0, V.int 0])) fp (.lst [V.ref tp])) fp = some (.lst ([tp].map V.ref)) := upd_same
    have ht1 : PrAt (upd (upd H tp (.tup [V.int 0, V.int 0])) fp (.lst [V.ref tp])) tp (0, 0) := (same_new hfp) _ _ upd_same
    generalize upd (upd H tp (.tup [V.int 0, V.int 0])) fp (.lst [V.ref tp]) = H1 at s1 hf1 ht1 ⊢
    refine while_my (fun σ H' => ∃ (as : List Addr) (o : List Nd) (n : Nat) (v5 v6 v7 v8 v9 v10 : Option V), σ = [some (.ref vl), some (.ref ot), some (.str (wS u)), some (.ref fp), some (.int (n : Int)), v5, v6, v7, v8, v9, v10] ∧ Same H H' ∧ H' fp = some (.lst (as.map V.ref)) ∧ Paired (PrAt H') as o ∧ o.Nodup ∧ (∀ x ∈ o, x.1 ≤ u.length ∧ x.2 < 2) ∧ ∀ r, Bfs (fun x => opNext ws ov u x ws.length) o n r → Bfs (fun x => opNext ws ov u x ws.length) [(0, 0)] 0 r)
      (fun σ H' => 12 - slotN σ 4) ⟨[tp], [(0, 0)], 0, none, none, none, none, none, none, rfl, s1, hf1, .cons ht1 .nil, List.nodup_cons.mpr ⟨by simp, List.nodup_nil⟩, fun x hx => by rw [List.mem_singleton.mp hx]; exact ⟨Nat.zero_le _, by decide⟩, fun r h => h⟩ ?_
    rintro σ H2 ⟨as, o, n, v5, v6, v7, v8, v9, v10, rfl, s2, hf2, hP2, ndo, lt, cont⟩
    have lao : as.length = o.length := Paired.len hP2
    have o12 := nd_few ndo lt u5
    refine ⟨_, rfl, _, rfl, fp, _, rfl, .inl (SqL.of hf2), _, _, rfl, rfl, _, rfl, ?_⟩
    rw [List.length_map, lao]
    refine ite2 (fun c => ?_) (fun c => ?_)
    · have hn : n < o.length := by have := of_decide_eq_true c; omega
      obtain ⟨x, hx⟩ : ∃ x, o[n]? = some x := ⟨_, List.getElem?_eq_getElem hn⟩
      obtain ⟨xa, hxa, hxp⟩ := Paired.get' hP2 hx
      obtain ⟨hx1, hx2⟩ := lt x (List.mem_of_getElem? hx)
      have hx2o : x.2 < ov.1.length := by obtain ⟨r0, r1, e2⟩ := ook.two; rw [e2]; exact hx2
      have nxt : ∀ (s' : Nat), s' < ws.length → ∀ (y : Nd) (v : View) (k : Nat), y ∈ opNext1 u v x.1 (go ov.1 x.2 s') k → k ≤ u.length + 1 - x.1 → y.1 ≤ u.length ∧ y.2 < 2 := fun s' hs' y v k hy hk => by
        obtain ⟨j, hj, _, rfl⟩ := opNext1_mem.mp hy
        refine ⟨by show x.1 + j ≤ u.length; omega, ?_⟩
        have h := ook.val.go hx2o hs'
        obtain ⟨r0, r1, e2⟩ := ook.two
        rw [e2] at h
        rw [e2]
        exact h
      refine ⟨_, turn_my, ?_⟩
      refine ⟨_, rfl, _, rfl, fp, _, _, _, rfl, rfl, SqL.of hf2, atI_nat (refs_at hxa), xa, _, rfl, SqT.of hxp, rfl, _, _, rfl, _, _, rfl, rfl, _, rfl, _, _, rfl, rfl, ?_⟩
      obtain ⟨ts, hts, htP⟩ := id hV
      have lts : ts.length = ws.length := Paired.len htP
      refine ⟨_, rfl, vl, _, H2, rfl, .inl (SqL.of (s2 _ _ hts)), fun o e => e, fun J wJ => ?_⟩
      refine for_it wJ (fun i σ' H3 => ∃ (as : List Addr) (v7 v8 v9 v10 : Option V), σ' = [some (.ref vl), some (.ref ot), some (.str (wS u)), some (.ref fp), some (.int ((n : Int) + 1)), some (.int (x.1 : Int)), some (.int (x.2 : Int)), v7, v8, v9, v10] ∧ Same H H3 ∧ H3 fp = some (.lst (as.map V.ref)) ∧ Paired (PrAt H3) as (addAll o (opNext ws ov u x i)))
        ⟨as, v7, v8, v9, v10, rfl, s2, hf2, hP2⟩ (fun i σ' H3 _ ⟨_, _, _, _, _, _, s3, _⟩ => fun o e => by rw [s2 _ _ hts] at e; rw [← e]; exact s3 _ _ hts) ?_ ?_
      · rintro i y σ' H3 _ hi ⟨as3, v7, v8, v9, v10, rfl, s3, hf3, hP3⟩ ⟨T1, y1, rfl, hT1, rfl, hy1⟩
        obtain ⟨t, ht, rfl⟩ := map_ref_get hy1
        obtain ⟨v, hv, hTt⟩ := Paired.get htP ht
        have ev : ws.getD i ([], []) = v := by rw [List.getD_eq_getElem?_getD, hv] <;> rfl
        have hiw : i < ws.length := (List.getElem?_eq_some_iff.mp hv).1
        have vo := hok v (List.mem_of_getElem? hv)
        have s4 : Same H3 (upd H3 T1 (.tup [V.int (i : Nat), V.ref t])) := same_new hT1
        refine ⟨T1, _, rfl, SqT.of upd_same, rfl, _, _, rfl, _, _, rfl, rfl, ?_⟩
        have hf4 := s4 _ _ hf3
        have hP4 := Paired.mono hP3 fun _ _ e => s4 _ _ e
        have sH4 := s3.trans s4
        generalize upd H3 T1 (.tup [V.int (i : Nat), V.ref t]) = H4 at hf4 hP4 sH4 ⊢
        obtain ⟨n1, a, e, g1, g2, n3, g4⟩ := hO.mono sH4
        obtain ⟨row, hrow, hg⟩ := go_get ook.val hx2o hiw
        obtain ⟨as2, b, h1, h2, h3⟩ := rows_at (K := K) g2.rows hrow
        have hls : (wS u).length ≤ sizeLine := by rw [wS_len, sizeLine_eq]; omega
        refine ⟨_, rfl, ot, _, _, _, rfl, rfl, .inr (SqT.of g1), tup2_0, _, rfl, a, _, _, _, rfl, rfl, h1, atI_nat (refs_at h2), _, rfl, b, _, _, _, rfl, rfl, h3, atI_nat (ints_at (toI_at hg)), ?_⟩
        refine ⟨_, rfl, _, rfl, _, rfl, hls, _, _, rfl, rfl, _, _, rfl, ⟨by omega, by omega, by rw [wS_len]; omega, by rw [wS_len]; omega⟩, ?_⟩
        have eN : (((wS u).length : Int) + 1 - (x.1 : Int)).toNat = u.length + 1 - x.1 := by rw [wS_len]; omega
        rw [eN]
        refine for_it (walk_range (lo := (x.1 : Int)) (n := u.length + 1 - x.1)) (fun j σ' H5 => ∃ (as : List Addr) (v10 : Option V), σ' = [some (.ref vl), some (.ref ot), some (.str (wS u)), some (.ref fp), some (.int ((n : Int) + 1)), some (.int (x.1 : Int)), some (.int (x.2 : Int)), some (.int (i : Int)), some (.ref t), some (.int (go ov.1 x.2 i : Nat)), v10] ∧ Same H H5 ∧ H5 fp = some (.lst (as.map V.ref)) ∧ Paired (PrAt H5) as (addAll (addAll o (opNext ws ov u x i)) (opNext1 u v x.1 (go ov.1 x.2 i) j)))
          ⟨as3, v10, rfl, sH4, hf4, hP4⟩ (fun _ _ _ _ _ => trivial) ?_ ?_
        · rintro j z σ' _ H5 hj ⟨as5, v10, rfl, s5, hf5, hP5⟩ ⟨rfl, rfl⟩
          have cw : cutS (wS u) (some ((x.1 : Nat) : Int)) (some ((x.1 : Int) + (j : Int))) = wS ((u.drop x.1).take j) := cut_wS (by omega)
          refine ⟨_, rfl, _, rfl, _, rfl, _, rfl, _, rfl, _, rfl, _, rfl, hls, ?_⟩
          rw [cw]
          have hW : Wd m ((u.drop x.1).take j) := ⟨m1, by omega, fun l hl => hu l (List.mem_of_mem_drop (List.mem_of_mem_take hl)), by rw [List.length_take, List.length_drop]; omega⟩
          refine ⟨p, t, m, v, _, rfl, hTt.mono s5, vo, hW, fun H6 s6 => ⟨_, rfl, ?_⟩⟩
          have s56 := s5.trans s6
          have hf6 := s6 _ _ hf5
          have hP6 := Paired.mono hP5 fun _ _ e => s6 _ _ e
          have la5 : as5.length = (addAll (addAll o (opNext ws ov u x i)) (opNext1 u v x.1 (go ov.1 x.2 i) j)).length := Paired.len hP5
          have esc : addAll (addAll o (opNext ws ov u x i)) (opNext1 u v x.1 (go ov.1 x.2 i) (j + 1)) = addAll (addAll (addAll o (opNext ws ov u x i)) (opNext1 u v x.1 (go ov.1 x.2 i) j)) (if run v.1 0 ((u.drop x.1).take j) ∈ v.2 then [(x.1 + j, go ov.1 x.2 i)] else []) := by rw [opNext1_succ, addAll_append]
          refine ite2 (fun d => ?_) (fun d => ?_)
          · have d := of_decide_eq_true d
            rw [esc, if_pos d]
            generalize hO5 : addAll (addAll o (opNext ws ov u x i)) (opNext1 u v x.1 (go ov.1 x.2 i) j) = o5 at hP6 la5 ⊢
            have en : ∀ {Hc : Hp} {c : Addr}, (upd Hc c (.tup [V.int ((x.1 : Int) + (j : Int)), V.int (go ov.1 x.2 i : Nat)])) c = some (.tup [V.int (((x.1 + j, go ov.1 x.2 i) : Nd).1 : Int), V.int (((x.1 + j, go ov.1 x.2 i) : Nd).2 : Int)]) := fun {Hc c} => by
              rw [upd_same]
              show some (HO.tup [V.int ((x.1 : Int) + (j : Int)), _]) = some (HO.tup [V.int ((x.1 + j : Nat) : Int), _])
              rw [show ((x.1 + j : Nat) : Int) = (x.1 : Int) + (j : Int) by omega]
            refine ⟨_, rfl, _, rfl, by show 2 ≤ sizeLine; decide, fun c hc => ?_⟩
            have s7 : Same H6 (upd H6 c (.tup [V.int ((x.1 : Int) + (j : Int)), V.int (go ov.1 x.2 i : Nat)])) := same_new hc
            have e7 : PrAt (upd H6 c (.tup [V.int ((x.1 : Int) + (j : Int)), V.int (go ov.1 x.2 i : Nat)])) c (x.1 + j, go ov.1 x.2 i) := en
            have hf7 := s7 _ _ hf6
            have hP7 := Paired.mono hP6 fun _ _ e => s7 _ _ e
            have s57 := s56.trans s7
            generalize upd H6 c (.tup [V.int ((x.1 : Int) + (j : Int)), V.int (go ov.1 x.2 i : Nat)]) = H7 at e7 hf7 hP7 s57 ⊢
            refine ⟨_, rfl, pd (x.1 + j, go ov.1 x.2 i), o5.map pd, dp_pair e7, .lst (SqL.of hf7) (dp_pairs hP7), pd_shaped, pds_shaped, _, rfl, ?_⟩
            rw [pds_any]
            by_cases hin : (x.1 + j, go ov.1 x.2 i) ∈ o5
            · rw [decide_eq_true hin]
              refine iteF ⟨as5, _, rfl, s57, hf7, ?_⟩
              rw [addAll_cons, if_pos hin]
              exact hP7
            · rw [decide_eq_false hin]
              refine iteT ?_
              refine ⟨_, rfl, .inl ⟨rfl, _, SqL.of hf7⟩, _, rfl, _, rfl, by show 2 ≤ sizeLine; decide, fun c2 hc2 => ?_⟩
              have s8 : Same H7 (upd H7 c2 (.tup [V.int ((x.1 : Int) + (j : Int)), V.int (go ov.1 x.2 i : Nat)])) := same_new hc2
              have e8 : PrAt (upd H7 c2 (.tup [V.int ((x.1 : Int) + (j : Int)), V.int (go ov.1 x.2 i : Nat)])) c2 (x.1 + j, go ov.1 x.2 i) := en
              have hf8 := s8 _ _ hf7
              have hP8 := Paired.mono hP7 fun _ _ e => s8 _ _ e
              have s58 := s57.trans s8
              generalize upd H7 c2 (.tup [V.int ((x.1 : Int) + (j : Int)), V.int (go ov.1 x.2 i : Nat)]) = H8 at e8 hf8 hP8 s58 ⊢
              refine ⟨fp, _, _, rfl, rfl, hf8, ?_, as5 ++ [c2], _, rfl, same_mut s58 hfpH, by rw [upd_same, List.map_append] <;> rfl, ?_⟩
              · rw [List.length_map, la5, sizeLine_eq]
                have hb : o5.length ≤ 12 := by
                  rw [← hO5]
                  refine nd_few (addAll_nodup _ _ (addAll_nodup _ _ ndo)) (fun y hy => ?_) u5
                  rcases (addAll_mem _ _ _).mp hy with hy | hy
                  · rcases (addAll_mem _ _ _).mp hy with hy | hy
                    · exact lt y hy
                    · obtain ⟨s', hs', hy⟩ := opNext_mem.mp hy
                      exact nxt s' (by omega) y _ _ hy (Nat.le_refl _)
                  · exact nxt i hiw y _ _ hy (by omega)
                omega
              · rw [addAll_cons, if_neg hin]
                exact Paired.snoc (Paired.mono hP8 fun b _ e => by show upd _ _ _ b = _; rw [upd_ne (fun z => by rw [z, hf8] at e; cases e)]; exact e) (by show upd _ _ _ c2 = _; rw [upd_ne (fun z => by rw [PrAt, z, hf8] at e8; cases e8)]; exact e8)
          · have d : ¬ run v.1 0 ((u.drop x.1).take j) ∈ v.2 := fun z => d (decide_eq_true z)
            rw [esc, if_neg d]
            exact iteF ⟨as5, _, rfl, s56, hf6, hP6⟩
        · rintro σ' H5 ⟨as5, v10, rfl, s5, hf5, hP5⟩
          refine ⟨as5, _, _, _, _, rfl, s5, hf5, ?_⟩
          rw [opNext_succ, addAll_append, ev]
          exact hP5
      · rintro σ' H3 ⟨as3, v7, v8, v9, v10, rfl, s3, hf3, hP3⟩
        rw [List.length_map, lts] at hP3
        refine ⟨⟨as3, _, n + 1, some (.int (x.1 : Int)), some (.int (x.2 : Int)), v7, v8, v9, v10, ?_, s3, hf3, hP3, addAll_nodup _ _ ndo, fun y hy => ?_, fun r hr => cont r (.step hx hr)⟩, ?_⟩
        · rfl
        · rcases (addAll_mem _ _ _).mp hy with hy | hy
          · exact lt y hy
          · obtain ⟨s', hs', hy⟩ := opNext_mem.mp hy
            exact nxt s' hs' y _ _ hy (Nat.le_refl _)
        · show 12 - ((n : Int) + 1).toNat < 12 - (n : Int).toNat
          omega
    · have hn : ¬ n < o.length := fun z => c (decide_eq_true (by omega))
      have hB := cont o (.done (by omega))
      refine ⟨_, rfl, fp, rfl, ⟨_, SqL.of hf2⟩, fun D hD => ?_⟩
      let bq : Nd → Bool := fun x => decide (x.1 = u.length) && decide (x.2 ∈ ov.2)
      refine lc_list (xs := as.map V.ref) (fun i H3 => ∃ acc, LcP H2 D (fun i acc _ => acc = ((o.take i).map bq).map V.bl) i H3 acc) (lcP_start hD fun _ _ => rfl) (fun i H3 _ ⟨acc, p3⟩ => SqL.of (p3.all _ _ hf2)) ?_ ?_
      · rintro i y H3 hy ⟨acc, p3⟩
        obtain ⟨xa, hxa, rfl⟩ := map_ref_get hy
        obtain ⟨x, hx, hxp⟩ := Paired.get hP2 hxa
        have hxp3 := p3.all _ _ hxp
        have hi := (List.getElem?_eq_some_iff.mp hx).1
        refine ⟨xa, _, rfl, SqT.of hxp3, rfl, _, _, rfl, _, _, rfl, rfl, rfl, yesT ?_⟩
        have put : ∀ c : Bool, bq x = c → ∃ acc, H3 D = some (.lst acc) ∧ acc.length < sizeLine ∧ ∃ acc', LcP H2 D (fun i acc _ => acc = ((o.take i).map bq).map V.bl) (i + 1) (upd H3 D (.lst (acc ++ [V.bl c]))) acc' := fun c hc => by
          refine lcP_put p3 hi (by rw [sizeLine_eq]; omega) (Same.refl _) ?_
          rw [p3.is, List.take_add_one, hx, List.map_append, List.map_append, ← hc] <;> rfl
        obtain ⟨n1, a, e, g1, g2, n3, g4⟩ := (hO.mono s2).mono p3.all
        refine ⟨_, rfl, _, rfl, _, rfl, by rw [wS_len, sizeLine_eq]; omega, rfl, ?_⟩
        by_cases c1 : x.1 = u.length
        · refine ⟨true, by rw [wS_len, c1]; simp, iteT ?_⟩
          refine ⟨_, rfl, _, rfl, ot, _, _, _, rfl, rfl, .inr (SqT.of g1), tup2_1, e, _, rfl, .inl (SqL.of g4), rfl, flat_ints _, ?_⟩
          rw [inV_nat]
          refine put _ ?_
          show (decide (x.1 = u.length) && decide (x.2 ∈ ov.2)) = decide (x.2 ∈ ov.2)
          rw [decide_eq_true c1, Bool.true_and]
        · refine ⟨false, ?_, iteF ?_⟩
          · rw [wS_len]
            have : ¬ (V.int (x.1 : Int) = V.int (u.length : Int)) := fun z => c1 (by injection z with z; omega)
            rw [decide_eq_false this]
          · refine put _ ?_
            show (decide (x.1 = u.length) && decide (x.2 ∈ ov.2)) = false
            rw [decide_eq_false c1, Bool.false_and]
      · rintro H3 ⟨acc, p3⟩
        refine ⟨D, o.map bq, rfl, SqL.of (by rw [p3.at_, p3.is, List.length_map, lao, List.take_length]), ?_⟩
        have e : (o.map bq).any id = IsOp ws ov u o := by
          unfold IsOp
          rw [List.any_map] <;> rfl
        rw [e]
        exact k _ o (s2.trans p3.all) hB
end
end K81
end
section
set_option Elab.async false
set_option maxRecDepth 100000
set_option maxHeartbeats 4000000
set_option linter.all false
set_option pp.maxSteps 1500
set_option pp.deepTerms false
/-! calls by keyword alone; what a draw leaves; the plain law -/
namespace K81
open PySem PySem.Spec PyProof.Rows L2 K81M NdefX LamX
/-! ### two keywords, the second parameter first -/
def tKw2 (sp : Sp) (tk : L2.TA) : TE := fun σ H Q => tk σ H fun zs H1 => ∃ u v, zs = [u, v] ∧ sp [v, u] H1 Q E0
def sw2 {α : Type} : List α → List α
  | [u, v] => [v, u]
  | xs => xs
theorem sw2_vals : ∀ {zs : List V} {ws : List Value}, Vals zs ws → Vals (sw2 zs) (sw2 ws)
  | _, _, .nil => .nil
  | _, _, .cons h .nil => .cons h .nil
  | _, _, .cons h (.cons h2 .nil) => .cons h2 (.cons h .nil)
  | _, _, .cons h (.cons h2 (.cons h3 t)) => .cons h (.cons h2 (.cons h3 t))
section
variable {X : Cx} {k j : Nat} {st : Stmt} {x a b : Str} {sp : Sp} {p pos : Pos} {kws : List Keyword} {tk : L2.TA}
theorem pe_kwS (c : FnF X.prog X.w X.K X.mg X.base k st x [a, b] sp) (hr : Room j X.A) (hkj : k ≤ j) (hkw : PK X kws tk)
    (bnd : ∀ (kV doc pm : Value) (an : Option Addr) (cdv ct u v : Value), bindArgs (PySem.W.fnOf x x (defArgs st) (defBody st) (defScope st) .none kV doc pm an cdv ct) ⟨[], [(b, u), (a, v)]⟩ = pure [(a, v), (b, u)])
    (hg : Gl X x := by rfl) (hall : (backToKw pos (keywordEach kws X.env)).all (·.1.isSome) = true := by rfl) (hks : (backToKw pos (keywordEach kws X.env)).filterMap (·.1) = [b, a] := by rfl)
    (hdb : (x == ("__debug__" : Str)) = false := by decide)
    (hpl : ((backTo pos (starEach [] X.env)).any (·.1) || (backToKw pos (keywordEach kws X.env)).any (·.1.isNone)) = false := by rfl) : PE X (.Call (.Name x p) [] kws pos) (tKw2 sp tk) := by
  obtain ⟨fd, F0, F, hm⟩ := c
  have kb : KBn X.K fd [a, b] 0 [b, a] (fun _ ws => sw2 ws) (fun _ zs => sw2 zs) := by
    obtain ⟨oc, od, dV, kV, doc, pm, an, cdv, ct, osl, rfl, lk, hcd, hD, hK⟩ := F0.ex
    rcases hD with ⟨_, rfl⟩ | ⟨e, _⟩
    · refine ⟨fun s us ws _ l1 l2 => ?_, fun _ r => sw2_vals r⟩
      match us, ws, l1, l2 with
      | [], [u, v], _, _ => exact .of_eq (bnd kV doc pm an cdv ct u v)
    · exact absurd rfl e
  refine ⟨fun pins s σ H Q I h => ?_⟩
  refine wpAny_Call_Name_kw (ld_glob I hg hm ?_ hdb)
  refine PySem.W.callWith_KW0 (h₀ := X.base) I.ok.mod.kin F0.kp hall (thn (hkw.run pos pins s σ H _ I h) fun ws s2 ⟨zs, H2, I2, rz, q2⟩ => ⟨I2.kIn, ?_⟩) hpl
  rw [hks]
  obtain ⟨u, v, rfl, q⟩ := q2
  exact run_fnN (F.mono hkj) hr kb pass0 I2 (us := []) (vs := []) .nil rz rfl rfl q
end
/-! ### == of two equal machines -/
section
variable {X : Cx}
theorem op_neM {n : Nat} (T : Txt X.K X.mg) (hr : Room (n + 2) X.A) : OpR X (compareOp .NotEq) (rNeG (mC X.K) (eqR X.K)) := by
  obtain ⟨fd, F, b⟩ := f_eq (P := X.prog) (w := X.w) (base := X.base) T
  exact op_neG F ⟨T.ins.hm, T.ne⟩ T.me.at_ T.me.fn b (hr.mono (by omega))
theorem op_eqM {n : Nat} (T : Txt X.K X.mg) (hr : Room (n + 2) X.A) : OpR X (compareOp .Eq) (rEqG (DIns (mC X.K) (eqR X.K))) := by
  obtain ⟨fd, F, b⟩ := f_eq (P := X.prog) (w := X.w) (base := X.base) T
  exact op_eqG (rcG_ins (CX := CX0) (E := E0) F T.me.at_ T.me.fn b pass0) (hr.mono (by omega))
end
/-! ### what a draw leaves -/
section
variable {K : PySem.W.Frag} {H H' : Hp} {p a : Addr}
theorem Pot.ne_obj {o : HO} (h : Pot H p) (e : H a = some o) (n : ∀ x y : Int, o ≠ .lst [.int x, .int y]) : a ≠ p := by
  obtain ⟨x, y, _, _, _, hp⟩ := h
  rintro rfl
  rw [hp] at e
  exact n x y (Option.some.inj e).symm
theorem TT.but {rows : List (List Int)} (h : TT H a rows) (P : Pot H p) (e : But p H H') : TT H' a rows := by
  obtain ⟨as, h1, h2⟩ := h
  exact ⟨as, e _ _ (P.ne_obj h1 fun _ _ z => nomatch z) h1, Paired.mono h2 fun _ _ q => e _ _ (P.ne_obj q fun _ _ z => nomatch z) q⟩
theorem Mach.but {m : Nat} {st : List (List Nat)} {en : List Nat} (h : Mach K H a m st en) (P : Pot H p) (e : But p H H') : Mach K H' a m st en := by
  obtain ⟨dx, tt, te, h1, h2, h3⟩ := h
  exact ⟨dx, tt, te, e _ _ (P.ne_obj h1 fun _ _ z => nomatch z) h1, h2.but P e, e _ _ (P.ne_obj h3 fun _ _ z => nomatch z) h3⟩
theorem TabsN.but {T : List NTab} (t : TabsN T H) (P : Pot H p) (e : But p H H') : TabsN T H' := fun q hq => by
  obtain ⟨ps, h1, h2, h3⟩ := t q hq
  refine ⟨ps, e _ _ (P.ne_obj h1 fun _ _ z => nomatch z) h1, h2, fun pos cv hc => ?_⟩
  obtain ⟨c, e1, e2⟩ := h3 pos cv hc
  exact ⟨c, e1, e _ _ (P.ne_obj e2 fun _ _ z => by unfold CodeO at z; cases z) e2⟩
theorem Pot.extN (h : Pot H p) (e : ExtN H H') : Pot H' p := let ⟨x, y, h1, h2, h3, h4⟩ := h; ⟨x, y, h1, h2, h3, e _ _ h4 fun _ z => nomatch z⟩
theorem RL.extN {st : List (List Nat)} (h : RL H p a st) (e : ExtN H H') : RL H' p a st := let ⟨h1, bs, h2, h3⟩ := h; ⟨h1, bs, e _ _ h2 (fun _ z => nomatch z), Paired.mono h3 fun _ _ q => ⟨q.1, e _ _ q.2 fun _ z => nomatch z⟩⟩
theorem TA.extN {v : View} (h : TA H p a v) (e : ExtN H H') : TA H' p a v := let ⟨h1, b, x, h2, h3, h4, h5⟩ := h; ⟨h1, b, x, e _ _ h2 (fun _ z => nomatch z), h3.extN e, h4, e _ _ h5 fun _ z => nomatch z⟩
/-- the list of made machines -/
def MsL (K : PySem.W.Frag) (H : Hp) (D : Addr) (m : Nat) (cs : List View) : Prop := ∃ as : List Addr, H D = some (.lst (as.map V.ref)) ∧ Paired (fun b (v : View) => Mach K H b m v.1 v.2) as cs
theorem MsL.vws {D : Addr} {m : Nat} {cs : List View} (h : MsL K H D m cs) : Vws K H D m cs := let ⟨as, h1, h2⟩ := h; ⟨as, .inl (SqL.of h1), h2⟩
theorem ref_ne_int {as : List Addr} (x y : Int) : HO.lst (as.map V.ref) ≠ .lst [.int x, .int y] := fun z => by
  injection z with z
  match as with
  | [] => cases z
  | a :: as => injection z with z _; cases z
theorem txt_ne_int {rs : List (List Nat)} (x y : Int) : HO.lst (txts rs) ≠ .lst [.int x, .int y] := fun z => by
  injection z with z
  match rs with
  | [] => cases z
  | a :: as => injection z with z _; cases z
/-- all that the law holds in hand -/
structure RS (K : PySem.W.Frag) (H : Hp) (p vl D : Addr) (m : Nat) (ws cs : List View) : Prop where
  pot : Pot H p
  tabs : TabsN (Tn K) H
  lv : LV H p vl ws
  ms : MsL K H D m cs
variable {vl D : Addr} {m : Nat} {ws cs : List View}
theorem RS.same (R : RS K H p vl D m ws cs) (e : Same H H') : RS K H' p vl D m ws cs :=
  ⟨R.pot.mono e, R.tabs.ext e, R.lv.mono e, let ⟨as, h1, h2⟩ := R.ms; ⟨as, e _ _ h1, Paired.mono h2 fun _ _ q => q.mono e⟩⟩
theorem RS.extN (R : RS K H p vl D m ws cs) (e : ExtN H H') (t : TabsN (Tn K) H') : RS K H' p vl D m ws cs :=
  ⟨R.pot.extN e, t, let ⟨ts, h1, h2⟩ := R.lv; ⟨ts, e _ _ h1 (fun _ z => nomatch z), Paired.mono h2 fun _ _ q => q.extN e⟩, let ⟨as, h1, h2⟩ := R.ms; ⟨as, e _ _ h1 (fun _ z => nomatch z), Paired.mono h2 fun _ _ q => ExtN.mach e q⟩⟩
theorem RS.but (R : RS K H p vl D m ws cs) (e : ButP p H H') : RS K H' p vl D m ws cs :=
  ⟨e.2, K81.TabsN.but R.tabs R.pot e.1, let ⟨ts, h1, h2⟩ := R.lv; ⟨ts, e.1 _ _ (R.pot.ne_obj h1 ref_ne_int) h1, Paired.mono h2 fun _ _ q => q.but e.1⟩, let ⟨as, h1, h2⟩ := R.ms; ⟨as, e.1 _ _ (R.pot.ne_obj h1 ref_ne_int) h1, Paired.mono h2 fun _ _ q => q.but R.pot e.1⟩⟩
end
/-! ### the plain law -/
/-- what opened_by asks of views and rows -/
def Fit (cs : List View) (rows : List (List Int)) (en : List Nat) (m : Nat) : Prop :=
  POk cs rows m ∧ (∃ U, UOk cs rows m U) ∧ ∀ st' en', Canon m (opL cs rows en m) st' en' → st'.length ≤ 60
def mostOf (m : Nat) : Nat := if m = 2 then 3 else 5
structure Good (m : Nat) (vs : List View) (cs : List View) : Prop where
  mm : m = 1 ∨ m = 2
  are : ∀ v ∈ vs, v ∈ toldB ∨ Drawn v
  v1 : 1 ≤ vs.length
  v3 : vs.length ≤ 3
  can : Paired (fun (v c : View) => Canon m (lang m (cutW m v).1 (cutW m v).2) c.1 c.2) vs cs
structure PlainLaw : Prop where
  vok : ∀ m v, (m = 1 ∨ m = 2) → (v ∈ toldB ∨ Drawn v) → VOk m (cutW m v)
  read : ∀ {m vs cs u}, Good m vs cs → (∀ l ∈ u, l < vs.length) → u.length ≤ 3 → Fit cs (rowsR cs.length u) [u.length] m
  open_ : ∀ {m vs cs ov so eo}, Good m vs cs → OverOk vs.length ov → Canon vs.length (lang vs.length ov.1 ov.2) so eo → Fit cs (toR so) eo m
  word : ∀ {m vs cs u sw ew}, Good m vs cs → (∀ l ∈ u, l < vs.length) → u.length ≤ 3 → Canon vs.length (wordL vs.length u) sw ew → Fit cs (toR sw) ew m
  sayR : ∀ {m vs cs u st en b}, Good m vs cs → (∀ l ∈ u, l < vs.length) → u.length ≤ 3 → Canon m (opL cs (rowsR cs.length u) [u.length] m) st en → b ∈ wordsTo m (mostOf m) → (run st 0 b ∈ en ↔ RdB (vs.map (cutW m)) m (mostOf m) u b)
  sayO : ∀ {m vs cs ov so eo st en b r}, Good m vs cs → OverOk vs.length ov → Canon vs.length (lang vs.length ov.1 ov.2) so eo → Canon m (opL cs (toR so) eo m) st en → b ∈ wordsTo m (mostOf m) →
    Bfs (fun x => opNext (vs.map (cutW m)) ov b x vs.length) [(0, 0)] 0 r → decide (run st 0 b ∈ en) = IsOp (vs.map (cutW m)) ov b r
  eqW : ∀ {m vs cs u sw ew}, Good m vs cs → (∀ l ∈ u, l < vs.length) → u.length ≤ 3 → Canon vs.length (wordL vs.length u) sw ew → opL cs (toR sw) ew m = opL cs (rowsR cs.length u) [u.length] m
  eqE : ∀ {m vs cs}, Good m vs cs → opL cs (rowsR cs.length []) [0] m = wordL m []
end K81
end
section
set_option Elab.async false
set_option maxRecDepth 100000
set_option maxHeartbeats 4000000
set_option linter.all false
set_option pp.maxSteps 1500
set_option pp.deepTerms false
/-! _law_right, law -/
namespace K81
open PySem PySem.Spec PyProof.Rows L2 K81M NdefX LamX
theorem abc_at {l : Nat} (h : l < 3) : atI ("abc" : Str).cps.toList (l : Int) = some (97 + l) := by
  have e : l = 0 ∨ l = 1 ∨ l = 2 := by omega
  rcases e with rfl | rfl | rfl
  · decide +kernel
  · decide +kernel
  · decide +kernel
theorem Mach.hole {K : PySem.W.Frag} {H : Hp} {D a : Addr} {xs : List V} {m : Nat} {st : List (List Nat)} {en : List Nat} (h : Mach K H a m st en) (e : H D = some (.lst xs)) : Mach K (K81.hole H D) a m st en := by
  obtain ⟨dx, tt, te, h1, ⟨as, h2, h3⟩, h4⟩ := h
  have go : ∀ {b : Addr} {o : HO}, H b = some o → (∀ ys, o ≠ .lst ys) → K81.hole H D b = some o := fun {b o} hb n => by
    rw [hole_ne (fun z => by rw [z, e] at hb; exact n _ (Option.some.inj hb).symm)]
    exact hb
  exact ⟨dx, tt, te, go h1 (fun _ z => nomatch z), ⟨as, go h2 (fun _ z => nomatch z), Paired.mono h3 fun _ _ q => go q fun _ z => nomatch z⟩, go h4 fun _ z => nomatch z⟩
theorem flat_txts (rs : List (List Nat)) : (txts rs).all flatV = true := by
  rw [List.all_eq_true]
  intro x hx
  obtain ⟨n, _, rfl⟩ := List.mem_map.mp hx
  rfl
theorem inV_txt {b : List Nat} {rs : List (List Nat)} : inV (.str (wS b)) (txts rs) = decide (b ∈ rs) := by
  unfold inV txts
  rw [List.any_map]
  induction rs with
  | nil => rfl
  | cons a rs ih =>
    rw [List.any_cons, ih]
    have e : (((fun y => eqV y (V.str (wS b))) ∘ fun u => V.str (wS u)) a) = decide (a = b) := by
      show eqV (.str (wS a)) (.str (wS b)) = _
      unfold eqV
      by_cases h : a = b
      · subst h; simp
      · have h2 : ¬ wS a = wS b := fun z => h (wS_inj z)
        simp [h, h2]
    rw [e]
    by_cases h : a = b
    · subst h; simp
    · have h' : ¬ b = a := fun z => h z.symm
      simp [h, h']
section
variable {P : Program} {w : World} {K : PySem.W.Frag} {mg : Str → Option Value} {base : Heap}
def spRight (K : PySem.W.Frag) : Sp := fun vs H Q _ => ∃ (p : Addr), vs = [.ref p] ∧ Pot H p ∧ TabsN (Tn K) H ∧ ∀ H', Q (.bl true) H'
abbrev nmRt : List Str := ["_law_pot_here", "_law_letters", "_law_told_here", "_law_views", "_law_made", "_law_many", "_law_word", "_law_turn", "_law_most", "_law_one", "_law_due", "_law_over_here", "_law_all_read", "_law_near", "_law_view"]
theorem scRt : FnScope nmRt ["_law_pot_here"] (defScope sRight) := ⟨rfl, rfl, rfl, by decide +kernel, rfl, by decide +kernel, by decide +kernel⟩
theorem c_right (T : Txt K mg) (TB : Tbs K mg base) (PL : PlainLaw) : Cal P w K mg base 14 "_law_right" ["_law_pot_here"] (spRight K) := by
  obtain ⟨fI, FI, bI⟩ := f_init (P := P) (w := w) (base := base) T
  refine cal sRight T 45 43 rfl rfl scRt (fun _ _ _ _ _ _ us hl => match us, hl with | [_], _ => rfl) (fun vs H Q E h => ?_) (fun cdv A outer s H vs Q E hr h => ?_)
  · obtain ⟨p, rfl, _⟩ := h
    rfl
  · obtain ⟨p, rfl, hP, hT, k⟩ := h
    have nd := scRt.nd
    refine ⟨_, pss_cons (ps_asg (pe_c (c_world T) hr (by decide) (pa_cons (pv 0) (pa_cons pe_int pa_nil))) (pg_tup rfl (pgs_cons (pg_name (i := 1) nd rfl (Or.inr rfl)) (pgs_cons (pg_name (i := 2) nd rfl (Or.inl rfl)) (pgs_cons (pg_name (i := 3) nd rfl (Or.inl rfl)) pgs_nil)))))
      (pss_cons (ps_par3 (i := 4) (j := 5) (l := 6) rfl nd rfl rfl rfl (by decide) (by decide) (by decide) rfl rfl rfl (pa_cons (pe_lc (own := [("_law_view", 14)]) (g := gName 14) (tt := tYes) rfl nd (pi_list (pv 3)) (blkOk_by (N := nmRt) (sc := defScope sRight) (by decide +kernel)) (fun _ _ _ _ _ => pg_name (i := 14) nd rfl (Or.inl rfl)) (fun _ _ _ _ _ => pts_nil)
          (fun _ _ _ _ _ => pe_c (c_lmachine T) hr (by decide) (pa_cons (pv 1) (pa_cons (pv 14) pa_nil)))) (pa_cons (pe_callB call_len_seq (by rfl) (T.f 0 rfl) boot_len (pa_cons (pv 3) pa_nil)) (pa_cons pe_str pa_nil))) (by rfl))
      (pss_cons (ps_for PassesOwn.never rfl (pi_range1 rfl (T.f 12 rfl) (pa_cons (pe_c (c_draw T) hr (by decide) (pa_cons (pv 0) (pa_cons pe_int pa_nil))) pa_nil)) (pg_name (i := 7) nd rfl (Or.inl rfl))
        (pss_one (ps_set (i := 6) nd rfl (Or.inl rfl) (pe_op op_add_str (pv 6) (pe_ix ix_str pe_str (pe_c (c_draw T) hr (by decide) (pa_cons (pv 0) (pa_cons (pv 5) pa_nil))) (fun _ _ => rfl))))))
      (C8.pss_cut (ps_set (i := 8) nd rfl (Or.inl rfl) (pe_ifExp (pt_cmpR op_eq (pv 1) pe_int (nomark _)) pe_int pe_int))
      (pss_cons (ps_par (i := 9) (j := 10) rfl nd rfl rfl (by decide) rfl rfl (pa_cons (pe_c (c_readings_of T TB) hr (by decide) (pa_cons (pv 4) (pa_cons (pv 6) pa_nil))) (pa_cons (pe_c (c_read_by T) hr (by decide) (pa_cons (pv 3) (pa_cons (pv 1) (pa_cons (pv 6) (pa_cons (pv 8) pa_nil))))) pa_nil)) (by rfl))
      (pss_cons (ps_set (i := 11) nd rfl (Or.inl rfl) (pe_c (c_over T) hr (by decide) (pa_cons (pv 0) (pa_cons (pv 5) pa_nil))))
      (pss_cons (ps_set (i := 12) nd rfl (Or.inl rfl) (pe_kwS (f_opened T TB) hr (by decide) (pk_cons (pe_make T.mkr FI (hr.mono (by decide)) (by rfl) T.gM bI .nil pass0 (pa_cons (pv 5) (pa_cons (pe_ix ix_sq (pv 11) pe_int (fun _ _ => rfl)) (pa_cons (pe_ix ix_sq (pv 11) pe_int (fun _ _ => rfl)) pa_nil)))) (pk_cons (pe_callTy call_tuple_of (by rfl) (T.f 8 rfl) boot_tuple (pa_cons (pv 4) pa_nil)) pk_nil)) (fun _ _ _ _ _ _ _ _ => rfl)))
      (pss_cons (ps_for PassesOwn.never rfl (pi_list (pe_c (c_lwords T) hr (by decide) (pa_cons (pv 1) (pa_cons (pv 8) pa_nil)))) (pg_name (i := 13) nd rfl (Or.inl rfl))
        (pss_cons (ps_if (pt_cmpR op_ne (pe_c (c_lets T) hr (by decide) (pa_cons (pv 9) (pa_cons (pv 13) pa_nil))) (pe_cmpR op_in_seq (pv 13) (pv 10) (by rfl)) (nomark _)) (pss_one ps_never) pss_nil)
        (pss_one (ps_if (pt_cmpR op_ne (pe_c (c_lets T) hr (by decide) (pa_cons (pv 12) (pa_cons (pv 13) pa_nil))) (pe_c (c_is_opened T) hr (by decide) (pa_cons (pv 3) (pa_cons (pv 11) (pa_cons (pv 13) pa_nil)))) (nomark _)) (pss_one ps_never) pss_nil))))
      (pss_cons (ps_if (PW.pt (pw_or (pt_cmpR (op_neM (n := 11) T hr) (pe_c (c_opened T TB) hr (by decide) (pa_cons (pv 4) (pa_cons (pe_c (c_of_words T TB) hr (by decide) (pa_cons (pv 5) (pa_cons (pe_lst (pa_cons (pv 6) pa_nil)) pa_nil))) pa_nil))) (pv 9) (nomark _))
          (pw_or1 (pt_cmpR (op_neM (n := 11) T hr) (pe_kwS (f_readings_of T TB) hr (by decide) (pk_cons (pv 6) (pk_cons (pv 4) pk_nil)) (fun _ _ _ _ _ _ _ _ => rfl)) (pv 9) (nomark _))))) (pss_one ps_never) pss_nil)
      (pss_one (ps_ret (pe_cmpR (op_eqM (n := 11) T hr) (pe_c (c_readings_of T TB) hr (by decide) (pa_cons (pv 4) (pa_cons pe_str pa_nil))) (pe_c (c_of_words T TB) hr (by decide) (pa_cons (pv 1) (pa_cons (pe_lst (pa_cons pe_str pa_nil)) pa_nil))) (nomark _)))))))))))), ?_⟩
    refine ⟨_, rfl, p, 3, rfl, hP, by decide, by decide, fun H1 t m vl ts vs hB1 hW v1 v3 => ?_⟩
    have hT1 := K81.TabsN.but hT hP hB1.1
    have P1 := hB1.2
    obtain ⟨th, ht⟩ := hW.tup
    have hvl := hW.lst
    have lts : ts.length = vs.length := Paired.len hW.vws
    refine ⟨t, _, rfl, SqT.of ht, rfl, _, _, rfl, _, _, rfl, _, _, rfl, rfl, ?_⟩
    refine ⟨_, rfl, vl, rfl, ⟨_, SqL.of hvl⟩, fun D hD => ?_⟩
    refine lc_list (xs := ts.map V.ref) (fun i H4 => ∃ acc, LcP H1 D (fun i acc Hh => ∃ (as : List Addr) (cs : List View), acc = as.map V.ref ∧ Paired (fun b (v : View) => Mach K Hh b m v.1 v.2) as cs ∧ Paired (fun (v c : View) => Canon m (lang m (cutW m v).1 (cutW m v).2) c.1 c.2) (vs.take i) cs) i H4 acc) (lcP_start hD fun _ _ => ⟨[], [], rfl, .nil, .nil⟩) (fun i H4 _ ⟨acc, pp⟩ => SqL.of (pp.all _ _ hvl)) ?_ ?_
    · rintro i y H4 hy ⟨acc, pp⟩
      obtain ⟨ta, hta, rfl⟩ := map_ref_get hy
      obtain ⟨v, hv, hTv⟩ := Paired.get hW.vws hta
      have hi := (List.getElem?_eq_some_iff.mp hv).1
      obtain ⟨as, cs, rfl, hM, hC⟩ := pp.is
      refine ⟨rfl, yesT ⟨_, rfl, _, rfl, p, ta, m, cutW m v, rfl, hTv.mono pp.all, PL.vok m v hW.mm (hW.are v (List.mem_of_getElem? hv)), fun H5 x st en s5 hMx hCx => ?_⟩⟩
      have tk : vs.take (i + 1) = vs.take i ++ [v] := by rw [List.take_add_one, hv] <;> rfl
      refine lcP_put pp hi (by rw [sizeLine_eq]; omega) s5 ⟨as ++ [x], cs ++ [(st, en)], by rw [List.map_append] <;> rfl, ?_, ?_⟩
      · refine Paired.snoc (Paired.mono hM fun _ _ q => q.mono (Same.hole s5)) ?_
        exact hMx.hole (s5 _ _ pp.at_)
      · rw [tk]
        exact Paired.snoc hC hCx
    rintro H4 ⟨acc, pp⟩
    obtain ⟨as, cs, rfl, hM, hC⟩ := pp.is
    rw [List.length_map, lts, List.take_length] at hC
    have hD4 := pp.at_
    have s4 := pp.all
    have hM4 : Paired (fun b (v : View) => Mach K H4 b m v.1 v.2) as cs := Paired.mono hM fun _ _ q => q.mono hole_sub
    clear pp hM
    have G : Good m vs cs := ⟨hW.mm, hW.are, v1, v3, hC⟩
    have m12 : 1 ≤ m ∧ m ≤ 2 := by have := hW.mm; omega
    have lcs : cs.length = vs.length := (Paired.len hC).symm
    have las : as.length = cs.length := Paired.len hM4
    have hok : ∀ v ∈ vs.map (cutW m), VOk m v := fun v hv => by
      obtain ⟨y, hy, rfl⟩ := List.mem_map.mp hv
      exact PL.vok m y hW.mm (hW.are y hy)
    have lws : (vs.map (cutW m)).length = vs.length := List.length_map _
    have R4 : RS K H4 p vl D m (vs.map (cutW m)) cs := by
      refine ⟨P1.mono s4, hT1.ext s4, ⟨ts, s4 _ _ hvl, paired_of_get (by rw [lts, lws]) fun i a b ha hb => ?_⟩, ⟨as, hD4, hM4⟩⟩
      obtain ⟨v, hv, hT⟩ := Paired.get hW.vws ha
      rw [List.getElem?_map, hv] at hb
      rw [← Option.some.inj hb]
      exact hT.mono s4
    refine ⟨_, rfl, vl, _, rfl, .inl (SqL.of (s4 _ _ hvl)), _, _, _, rfl, ?_⟩
    rw [List.length_map, lts]
    refine ⟨_, rfl, p, 4, rfl, R4.pot, by decide, by decide, fun d H5 hd hB5 => ⟨_, rfl, by omega, by omega, ?_⟩⟩
    have R5 := R4.but hB5
    rw [Int.toNat_natCast]
    refine for_it (walk_range (lo := 0) (n := d)) (fun i σ' H' => ∃ (u : List Nat) (v7 : Option V), σ' = [some (.ref p), some (.int (m : Int)), some (.ref th), some (.ref vl), some (.ref D), some (.int (vs.length : Int)), some (.str (wS u)), v7, none, none, none, none, none, none, none] ∧ RS K H' p vl D m (vs.map (cutW m)) cs ∧ (∀ l ∈ u, l < vs.length) ∧ u.length = i)
      ⟨[], none, rfl, R5, (fun l hl => nomatch hl), rfl⟩ (fun _ _ _ _ _ => trivial) ?_ ?_
    · rintro i x σ' _ H6 hi ⟨u, v7, rfl, R6, hu, lu⟩ ⟨rfl, rfl⟩
      refine ⟨_, rfl, _, rfl, _, rfl, p, vs.length, rfl, R6.pot, v1, by omega, fun l H7 hl hB7 => ⟨_, _, _, rfl, rfl, by decide, abc_at (by omega), _, _, rfl, rfl, by rw [wS_len, sizeLine_eq]; show u.length + 1 ≤ _; omega, ?_⟩⟩
      rw [wS_snoc]
      exact ⟨u ++ [l], _, rfl, R6.but hB7, fun q hq => by
        rcases List.mem_append.mp hq with z | z
        · exact hu q z
        · rw [List.mem_singleton.mp z]; exact hl, by rw [List.length_append, lu] <;> rfl⟩
    rintro σ' H6 ⟨u, v7, rfl, R6, hu, lu⟩
    have u3 : u.length ≤ 3 := by omega
    clear hB5 R5 R4 hB1 hW hT1 P1 ht s4 hD4 hM4
    refine ⟨fun σ' H' => σ' = [some (.ref p), some (.int (m : Int)), some (.ref th), some (.ref vl), some (.ref D), some (.int (vs.length : Int)), some (.str (wS u)), v7, some (.int (mostOf m : Nat)), none, none, none, none, none, none] ∧ H' = H6, ?_, ?_⟩
    · refine ⟨_, rfl, rfl, _, rfl, ?_⟩
      rcases (show m = 1 ∨ m = 2 by omega) with rfl | rfl
      · exact iteF ⟨rfl, rfl⟩
      · exact iteT ⟨rfl, rfl⟩
    rintro _ _ ⟨rfl, rfl⟩
    obtain ⟨PO, ⟨U, UO⟩, h60⟩ := PL.read G hu u3
    have hWd : Wd cs.length u := ⟨by omega, by omega, fun l hl => by have := hu l hl; omega, by omega⟩
    have m5 : mostOf m ≤ 5 := by unfold mostOf; split <;> omega
    refine ⟨_, rfl, _, rfl, D, m, cs, u, U, rfl, R6.ms.vws, hWd, PO, UO, h60, R6.tabs, fun H7 one st1 en1 e7 t7 hM1 hC1 => ?_⟩
    have R7 := R6.extN e7 t7
    refine ⟨_, rfl, _, rfl, _, rfl, _, rfl, p, vl, m, mostOf m, vs.map (cutW m), u, rfl, R7.lv, hok, m12.1, m12.2, m5, fun l hl => by rw [lws]; exact hu l hl, by omega, by omega, fun H8 due rs s8 hdue hrs => ⟨_, _, rfl, ?_⟩⟩
    have R8 := R7.same s8
    have hM18 := hM1.mono s8
    refine ⟨_, rfl, _, rfl, p, vs.length, rfl, R8.pot, v1, v3, fun H9 ot ov hB9 hO hov => ?_⟩
    have R9 := R8.but hB9
    have hM19 := hM18.but R8.pot hB9.1
    have hdue9 := hB9.1 _ _ (R8.pot.ne_obj hdue txt_ne_int) hdue
    clear hM18 hM1 hdue s8 R8 R7 R6 hB9 e7 t7 UO PO h60
    obtain ⟨no, oa, oe, og1, og2, on3, og4⟩ := id hO
    have ond : ov.2.Nodup := by rcases hov.ends with z | z | z | z <;> rw [z] <;> decide
    have oval := hov.val
    have olen : ov.1.length = 2 := by obtain ⟨r0, r1, e⟩ := hov.two; rw [e] <;> rfl
    refine ⟨_, rfl, _, rfl, ot, _, _, _, rfl, rfl, .inr (SqT.of og1), tup2_0, _, rfl, ot, _, _, _, rfl, rfl, .inr (SqT.of og1), tup2_1, fun x dx hx hdx ndx => ?_⟩
    have q5 : Same H9 (upd (upd H9 dx (.own x)) x (.ins (mC K) dx [])) := Same.up (same_new hdx) (by rw [upd_ne ndx.symm]; exact hx)
    refine ⟨x, dx, oa, oe, vs.length, ov.1, ov.2, rfl, upd_same, (og2.mono q5).rows, ⟨oval.pos, oval.row, by rw [olen]; decide, by omega⟩, v1, by rw [olen]; decide, SqL.of (q5 _ _ og4), ond, oval.en, fun H10 so eo hB10 hMo hCo => ⟨rfl, ?_⟩⟩
    have s10 : Same H9 H10 := fun c o h => hB10 c o (ne_of_none h hx) (q5 _ _ h)
    have R10 := R9.same s10
    obtain ⟨PO2, ⟨U2, UO2⟩, h602⟩ := PL.open_ G hov hCo
    obtain ⟨as10, hD10, hM10⟩ := R10.ms
    refine ⟨_, rfl, D, as10.map V.ref, rfl, .inl ⟨SqL.of hD10, fun tp htp => ⟨_, _, rfl, ?_⟩⟩⟩
    have s11 : Same H10 (upd H10 tp (.tup (as10.map V.ref))) := same_new htp
    have hMo : Mach K H10 x vs.length so eo := ⟨dx, hMo⟩
    refine ⟨tp, x, m, cs, so, eo, U2, rfl, ⟨as10, .inr (SqT.of upd_same), Paired.mono hM10 fun _ _ q => q.mono s11⟩, by rw [lcs]; exact hMo.mono s11, PO2, UO2, h602, (R10.same s11).tabs, fun H12 al st2 en2 e12 t12 hM2 hC2 => ?_⟩
    have R12 := (R10.same s11).extN e12 t12
    have hM1' := ExtN.mach e12 ((hM19.mono s10).mono s11)
    have hdue12 : H12 due = some (.lst (txts rs)) := e12 _ _ (s11 _ _ (s10 _ _ hdue9)) fun _ z => nomatch z
    have hO12 := ((hO.mono s10).mono s11).extN e12
    clear hM10 hD10 hMo hB10 hM19 hdue9 R9 R10 s11 s10 q5 hO e12 t12
    refine ⟨_, rfl, _, rfl, m, mostOf m, rfl, m12.1, m12.2, m5, fun H13 wp s13 hwp0 hwp => ⟨wp, rfl, ⟨_, SqL.of hwp⟩, ?_⟩⟩
    refine for_list (xs := txts (wordsTo m (mostOf m))) (fun i σ' H' => ∃ v13, σ' = [some (.ref p), some (.int (m : Int)), some (.ref th), some (.ref vl), some (.ref D), some (.int (vs.length : Int)), some (.str (wS u)), v7, some (.int (mostOf m : Nat)), some (.ref one), some (.ref due), some (.ref ot), some (.ref al), v13, none] ∧ Same H13 H')
      ⟨none, rfl, Same.refl _⟩ (fun i σ' H' _ ⟨_, _, s'⟩ => SqL.of (s' _ _ hwp)) ?_ ?_
    · rintro i y σ' H14 hy ⟨v13, rfl, s14⟩
      obtain ⟨b, hb, rfl⟩ : ∃ b, (wordsTo m (mostOf m))[i]? = some b ∧ y = V.str (wS b) := by
        rw [List.getElem?_map] at hy
        cases e : (wordsTo m (mostOf m))[i]? with
        | none => rw [e] at hy; cases hy
        | some w => rw [e] at hy; exact ⟨w, rfl, (Option.some.inj hy).symm⟩
      have hbm := List.mem_of_getElem? hb
      have hbW := wordsTo_mem.mp hbm
      have wdb : Wd m b := ⟨m12.1, by omega, hbW.2, by omega⟩
      have sA := s13.trans s14
      refine ⟨_, rfl, _, rfl, one, m, st1, en1, b, rfl, hM1'.mono sA, hC1.valid, wdb, fun H15 s15 => ?_⟩
      have sB := sA.trans s15
      refine ⟨_, rfl, _, rfl, due, _, rfl, .inl (SqL.of (sB _ _ hdue12)), rfl, flat_txts _, rfl, false, ?_, iteF ?_⟩
      · have e1 : decide (run st1 0 b ∈ en1) = inV (.str (wS b)) (txts rs) := by
          rw [inV_txt]
          exact decide_eq_decide.mpr ((PL.sayR G hu u3 hC1 hbm).trans (hrs b).symm)
        rw [e1]
        simp
      refine ⟨_, rfl, _, rfl, al, m, st2, en2, b, rfl, hM2.mono sB, hC2.valid, wdb, fun H16 s16 => ?_⟩
      have sC := sB.trans s16
      refine ⟨_, rfl, _, rfl, _, rfl, p, vl, ot, m, vs.map (cutW m), ov, b, rfl, R12.lv.mono sC, hok, m12.1, m12.2, hO12.mono sC, by rw [lws]; exact hov, by omega, by omega, hbW.2, by omega, fun H17 r s17 hr17 => ⟨rfl, false, ?_, iteF ?_⟩⟩
      · rw [lws] at hr17
        rw [PL.sayO G hov hCo hC2 hbm hr17]
        simp
      · exact ⟨_, rfl, (s14.trans s15).trans (s16.trans s17)⟩
    rintro σ' H14 ⟨v13, rfl, s14⟩
    have sA := s13.trans s14
    have R14 := R12.same sA
    have hM14 := hM1'.mono sA
    clear hM1' R12 hM2 hwp hwp0 s13 s14 hdue12 hO12
    have hWk : Wd vs.length u := ⟨v1, v3, hu, by omega⟩
    have insM : ∀ {Hx : Hp} {a : Addr} {m : Nat} {st : List (List Nat)} {en : List Nat}, Mach K Hx a m st en → ∃ dx fs, Hx a = some (.ins (mC K) dx fs) := fun h => by obtain ⟨dx, _, _, h1, _⟩ := h; exact ⟨dx, _, h1⟩
    -- opened of the one word
    refine ⟨_, rfl, _, rfl, _, rfl, by show 1 ≤ sizeLine; decide, fun lp hlp => ?_⟩
    have s15 : Same H14 (upd H14 lp (.lst [V.str (wS u)])) := same_new hlp
    refine ⟨lp, vs.length, u, rfl, SqL.of upd_same, hWk, by omega, R14.tabs.ext s15, fun H15 wm sw ew e15 t15 hMw hCw => ?_⟩
    have R15 := (R14.same s15).extN e15 t15
    have hM15 := ExtN.mach e15 (hM14.mono s15)
    obtain ⟨PO3, ⟨U3, UO3⟩, h603⟩ := PL.word G hu u3 hCw
    refine ⟨D, wm, m, cs, sw, ew, U3, rfl, R15.ms.vws, by rw [lcs]; exact hMw, PO3, UO3, h603, R15.tabs, fun H16 on st3 en3 e16 t16 hM3 hC3 => ?_⟩
    have R16 := R15.extN e16 t16
    have hM16 := ExtN.mach e16 hM15
    rw [PL.eqW G hu u3 hCw] at hC3
    obtain ⟨rfl, rfl⟩ := hC3.det hC1
    obtain ⟨dx3, fs3, i3⟩ := insM hM3
    obtain ⟨dx1, fs1, i1⟩ := insM hM16
    refine ⟨_, rfl, on, one, _, _, _, _, rfl, rfl, i3, i1, ⟨_, _, _, hM3, hM16⟩, fun H17 s17 => ⟨false, rfl, iteF ?_⟩⟩
    have R17 := R16.same s17
    have hM17 := hM16.mono s17
    clear hM16 hM15 R15 R16 R14 hM14 hM3 hMw i3 i1 UO3 PO3 h603 e15 e16 t15 t16 s15
    -- readings by name
    obtain ⟨PO4, ⟨U4, UO4⟩, h604⟩ := PL.read G hu u3
    refine ⟨_, rfl, _, rfl, _, _, rfl, D, m, cs, u, U4, rfl, R17.ms.vws, hWd, PO4, UO4, h604, R17.tabs, fun H18 rd st4 en4 e18 t18 hM4 hC4 => ?_⟩
    have R18 := R17.extN e18 t18
    have hM18 := ExtN.mach e18 hM17
    obtain ⟨rfl, rfl⟩ := hC4.det hC3
    obtain ⟨dx4, fs4, i4⟩ := insM hM4
    obtain ⟨dx1, fs1, i1⟩ := insM hM18
    refine ⟨_, rfl, rd, one, _, _, _, _, rfl, rfl, i4, i1, ⟨_, _, _, hM4, hM18⟩, fun H19 s19 => ⟨false, rfl, iteF ?_⟩⟩
    have R19 := R18.same s19
    clear hM18 R17 R18 hM4 i4 i1 e18 t18 hM17
    -- the empty view word
    obtain ⟨PO5, ⟨U5, UO5⟩, h605⟩ := PL.read (u := []) G (fun l hl => nomatch hl) (by decide)
    have hW0 : ∀ {q : Nat}, 1 ≤ q → q ≤ 3 → Wd q [] := fun h1 h3 => ⟨h1, h3, (fun l hl => nomatch hl), by decide⟩
    refine ⟨_, rfl, D, m, cs, [], U5, rfl, R19.ms.vws, hW0 (by omega) (by omega), PO5, UO5, h605, R19.tabs, fun H20 re st5 en5 e20 t20 hM5 hC5 => ?_⟩
    have R20 := R19.extN e20 t20
    refine ⟨_, rfl, by show 1 ≤ sizeLine; decide, fun lq hlq => ?_⟩
    have s21 : Same H20 (upd H20 lq (.lst [V.str ""])) := same_new hlq
    refine ⟨lq, m, [], rfl, SqL.of upd_same, hW0 m12.1 (by omega), by decide, R20.tabs.ext s21, fun H21 rw_ st6 en6 e21 t21 hM6 hC6 => ?_⟩
    have hM5' := ExtN.mach e21 (hM5.mono s21)
    have hC5' : Canon m (wordL m []) st5 en5 := by
      have e := PL.eqE G
      rw [← e]
      exact hC5
    obtain ⟨rfl, rfl⟩ := hC5'.det hC6
    obtain ⟨dx5, fs5, i5⟩ := insM hM5'
    obtain ⟨dx6, fs6, i6⟩ := insM hM6
    exact ⟨⟨re, rw_, _, _, _, _, rfl, rfl, i5, i6, ⟨_, _, _, hM5', hM6⟩⟩, fun H22 _ => k H22⟩
/-! ### the law -/
def spLaw (K : PySem.W.Frag) : Sp := fun vs H Q _ => ∃ (sc : Addr) (ns : List Int), vs = [.ref sc] ∧ SqL K H sc (ns.map V.int) ∧ ns.length ≤ 1000 ∧ TabsN (Tn K) H ∧ ∀ H', Q (.bl true) H'
theorem scLw : FnScope ["_law_script"] ["_law_script"] (defScope sLaw) := ⟨rfl, rfl, rfl, by decide +kernel, rfl, by decide +kernel, by decide +kernel⟩
theorem f_law (T : Txt K mg) (TB : Tbs K mg base) (PL : PlainLaw) : FnF P w K mg base 15 sLaw "law" ["_law_script"] (spLaw K) := by
  refine calF sLaw T 46 44 rfl rfl scLw (fun vs H Q E h => ?_) (fun cdv A outer s H vs Q E hr h => ?_)
  · obtain ⟨sc, ns, rfl, _⟩ := h
    rfl
  · obtain ⟨sc, ns, rfl, hS, few, hT, k⟩ := h
    refine ⟨_, pss_one (ps_ret (pe_c (c_right T TB PL) hr (by decide) (pa_cons (pe_c (c_pot T) hr (by decide) (pa_cons (pv 0) (pa_cons pe_int pa_nil))) pa_nil))), ?_⟩
    exact ⟨_, rfl, sc, ns, rfl, hS, few, fun H1 p s1 _ hP => ⟨p, rfl, hP, hT.ext s1, k⟩⟩
end
end K81
end
section
set_option Elab.async false
set_option linter.all false
/-! Standings of automata by slots: what is read by pieces. -/
namespace K81M
theorem snocInd {α : Type} {P : List α → Prop} (h0 : P []) (h1 : ∀ w l, P w → P (w ++ [l])) (w : List α) : P w := by
  have key : ∀ w : List α, P w.reverse := by
    intro w
    induction w with
    | nil => exact h0
    | cons l w ih => rw [List.reverse_cons]; exact h1 _ _ ih
  have := key w.reverse
  rwa [List.reverse_reverse] at this
theorem snocCases {α : Type} (w : List α) : w = [] ∨ ∃ v l, w = v ++ [l] := by
  revert w
  exact snocInd (.inl rfl) fun w l _ => .inr ⟨w, l, rfl⟩
/-- pieces one behind another, from 0 -/
inductive Pcs (E : Nat → List Nat → Nat → Prop) : Nat → List Nat → Prop
  | nil : Pcs E 0 []
  | piece {q q' : Nat} {a b : List Nat} : Pcs E q a → E q b q' → Pcs E q' (a ++ b)
inductive Pth (nx : Nat → Nat → Nat → Prop) : List Nat → Nat → Prop
  | nil : Pth nx [] 0
  | snoc {b : List Nat} {s l s' : Nat} : Pth nx b s → nx l s s' → Pth nx (b ++ [l]) s'
theorem Pth.inv0 {nx : Nat → Nat → Nat → Prop} {s : Nat} (h : Pth nx [] s) : s = 0 := by
  generalize e : ([] : List Nat) = w at h
  cases h with
  | nil => rfl
  | snoc _ _ => simp at e
theorem Pth.inv {nx : Nat → Nat → Nat → Prop} {b : List Nat} {l s : Nat} (h : Pth nx (b ++ [l]) s) : ∃ s0, Pth nx b s0 ∧ nx l s0 s := by
  generalize e : b ++ [l] = w at h
  cases h with
  | nil => simp at e
  | snoc h1 h2 =>
    obtain ⟨e1, e2⟩ := List.append_inj' e rfl
    subst e1
    injection e2 with e2 _
    subst e2
    exact ⟨_, h1, h2⟩
inductive Tk (J : Type) where
  | ov (q : Nat)
  | at (j : J) (s : Nat)
structure Nf (J : Type) where
  src : Nat → J → Prop
  tgt : J → Nat
  nx : J → Nat → Nat → Nat → Prop
  fin : J → Nat → Prop
inductive Rc {A : Type} (e : A → A → Prop) (S : A → Prop) : A → Prop
  | base {t : A} : S t → Rc e S t
  | step {t y : A} : Rc e S t → e t y → Rc e S y
section
variable {J : Type} (N : Nf J)
def Nf.e : Tk J → Tk J → Prop
  | .ov q, .at j s => N.src q j ∧ s = 0
  | .at j s, .ov q => N.fin j s ∧ q = N.tgt j
  | _, _ => False
def Nf.lt (l : Nat) : Tk J → Tk J → Prop
  | .at j s, .at j' s' => j' = j ∧ N.nx j l s s'
  | _, _ => False
def Nf.S0 : Tk J → Prop := Rc N.e fun t => t = .ov 0
def Nf.stp (S : Tk J → Prop) (l : Nat) : Tk J → Prop := Rc N.e fun y => ∃ t, S t ∧ N.lt l t y
def Nf.SW (w : List Nat) : Tk J → Prop := w.foldl N.stp N.S0
def accK (en : List Nat) (S : Tk J → Prop) : Prop := ∃ q ∈ en, S (.ov q)
def Nf.E (q : Nat) (b : List Nat) (q' : Nat) : Prop := ∃ j, N.src q j ∧ N.tgt j = q' ∧ ∃ s, Pth (N.nx j) b s ∧ N.fin j s
def Nf.Sem (w : List Nat) : Tk J → Prop
  | .ov q => Pcs N.E q w
  | .at j s => ∃ q a b, Pcs N.E q a ∧ w = a ++ b ∧ N.src q j ∧ Pth (N.nx j) b s
variable {N}
theorem Nf.SW_snoc {w : List Nat} {l : Nat} : N.SW (w ++ [l]) = N.stp (N.SW w) l := by
  unfold Nf.SW
  rw [List.foldl_append] <;> rfl
theorem Nf.SW_app {w v : List Nat} : N.SW (w ++ v) = v.foldl N.stp (N.SW w) := by
  unfold Nf.SW
  rw [List.foldl_append]
theorem Nf.core {w : List Nat} {B : Tk J → Prop} (hB : ∀ t, B t → N.Sem w t) (h0 : w = [] → B (.ov 0))
    (h1 : ∀ q a b l j s, w = a ++ (b ++ [l]) → Pcs N.E q a → N.src q j → Pth (N.nx j) (b ++ [l]) s → B (.at j s)) (t : Tk J) : Rc N.e B t ↔ N.Sem w t := by
  have ovc : ∀ q w', Pcs N.E q w' → w' = w → Rc N.e B (.ov q) := by
    intro q w' h
    induction h with
    | nil => exact fun e => .base (h0 e.symm)
    | @piece q q' a b hq hE ih =>
      intro e
      obtain ⟨j, hs, ht, s, hp, hf⟩ := hE
      have at_ : Rc N.e B (.at j s) := by
        rcases snocCases b with rfl | ⟨v, l, rfl⟩
        · rw [List.append_nil] at e
          rw [hp.inv0]
          exact .step (ih e) ⟨hs, rfl⟩
        · exact .base (h1 q a v l j s e.symm hq hs hp)
      exact .step at_ ⟨hf, ht.symm⟩
  constructor
  · intro h
    induction h with
    | base h => exact hB _ h
    | @step t y h he ih =>
      cases t with
      | ov q =>
        cases y with
        | ov q' => exact he.elim
        | «at» j s => exact ⟨q, w, [], ih, (List.append_nil w).symm, he.1, by rw [he.2]; exact .nil⟩
      | «at» j s =>
        cases y with
        | ov q' =>
          obtain ⟨q, a, b, h1, h2, h3, h4⟩ := ih
          show Pcs N.E q' w
          rw [h2]
          exact .piece h1 ⟨j, h3, he.2.symm, s, h4, he.1⟩
        | «at» j' s' => exact he.elim
  · intro h
    cases t with
    | ov q => exact ovc q w h rfl
    | «at» j s =>
      obtain ⟨q, a, b, h2, h3, h4, h5⟩ := h
      rcases snocCases b with rfl | ⟨v, l, rfl⟩
      · rw [List.append_nil] at h3
        rw [h5.inv0]
        exact .step (ovc q a h2 h3.symm) ⟨h4, rfl⟩
      · exact .base (h1 q a v l j s h3 h2 h4 h5)
theorem Nf.SW_iff (w : List Nat) : ∀ t, N.SW w t ↔ N.Sem w t := by
  revert w
  refine snocInd ?_ fun w l ih => ?_
  · refine Nf.core (fun t e => by rw [e]; exact .nil) (fun _ => rfl) fun q a b l j s e => ?_
    have := congrArg List.length e
    simp at this
  · rw [Nf.SW_snoc]
    refine Nf.core (fun y h => ?_) (fun e => by simp at e) fun q a b l' j s e hq hs hp => ?_
    · obtain ⟨t, ht, hl⟩ := h
      cases t with
      | ov q => exact hl.elim
      | «at» j s =>
        cases y with
        | ov q' => exact hl.elim
        | «at» j' s' =>
          obtain ⟨rfl, hx⟩ := hl
          obtain ⟨q, a, b, h1, h2, h3, h4⟩ := (ih _).mp ht
          exact ⟨q, a, b ++ [l], h1, by rw [h2, List.append_assoc], h3, .snoc h4 hx⟩
    · rw [← List.append_assoc] at e
      obtain ⟨e1, e2⟩ := List.append_inj' e rfl
      injection e2 with e2 _
      subst e2
      obtain ⟨s0, hp0, hx⟩ := hp.inv
      exact ⟨.at j s0, (ih _).mpr ⟨q, a, b, hq, e1, hs, hp0⟩, rfl, hx⟩
theorem Nf.acc_iff {en : List Nat} {w : List Nat} : accK en (N.SW w) ↔ ∃ q ∈ en, Pcs N.E q w := by
  constructor
  · rintro ⟨q, h1, h2⟩
    exact ⟨q, h1, (Nf.SW_iff w _).mp h2⟩
  · rintro ⟨q, h1, h2⟩
    exact ⟨q, h1, (Nf.SW_iff w _).mpr h2⟩
end
/-- the same pieces -/
theorem Pcs.congr {E E' : Nat → List Nat → Nat → Prop} {P : List Nat → Prop} (hP : ∀ a b, P (a ++ b) → P a ∧ P b) (h : ∀ q b q', P b → E q b q' → E' q b q') {q : Nat} {w : List Nat} (p : Pcs E q w) : P w → Pcs E' q w := by
  induction p with
  | nil => exact fun _ => .nil
  | piece _ he ih =>
    intro hw
    obtain ⟨h1, h2⟩ := hP _ _ hw
    exact .piece (ih h1) (h _ _ _ h2 he)
end K81M
end
section
set_option Elab.async false
set_option maxRecDepth 100000
set_option linter.all false
/-! opL by pieces. -/
namespace K81
open K81M
def jOp (vw : List View) (rows : List (List Int)) : Nf (Nat × Nat) where
  src := fun q j => j.2 < (rows.getD q []).length ∧ (rows.getD q []).getD j.2 0 = (j.1 : Int)
  tgt := fun j => j.1
  nx := fun j l s s' => s' = go (vw.getD j.2 ([], [])).1 s l
  fin := fun j s => s ∈ (vw.getD j.2 ([], [])).2
def tok : Tk (Nat × Nat) → T3
  | .ov q => [(q : Int), -1, 0]
  | .at j s => [(j.1 : Int), (j.2 : Int), (s : Int)]
theorem tok_inj {k k' : Tk (Nat × Nat)} (h : tok k = tok k') : k = k' := by
  cases k with
  | ov q =>
    cases k' with
    | ov q' =>
      injection h with h _
      have h : (q : Int) = (q' : Int) := h
      rw [show q = q' by omega]
    | «at» j s =>
      injection h with _ h
      injection h with h _
      have h : (-1 : Int) = (j.2 : Int) := h
      omega
  | «at» j s =>
    cases k' with
    | ov q' =>
      injection h with _ h
      injection h with h _
      have h : (j.2 : Int) = (-1 : Int) := h
      omega
    | «at» j' s' =>
      injection h with h1 h
      injection h with h2 h
      injection h with h3 _
      have h1 : (j.1 : Int) = (j'.1 : Int) := h1
      have h2 : (j.2 : Int) = (j'.2 : Int) := h2
      have h3 : (s : Int) = (s' : Int) := h3
      obtain ⟨a, b⟩ := j
      obtain ⟨c, d⟩ := j'
      have e1 : a = c := by have h1 : (a : Int) = (c : Int) := h1; omega
      have e2 : b = d := by have h2 : (b : Int) = (d : Int) := h2; omega
      have e3 : s = s' := by omega
      subst e1 e2 e3
      rfl
theorem eps_tok {vw : List View} {rows : List (List Int)} {k : Tk (Nat × Nat)} {y : T3} : y ∈ eps vw rows (tok k) ↔ ∃ k', (jOp vw rows).e k k' ∧ y = tok k' := by
  cases k with
  | ov q =>
    show y ∈ eps vw rows [(q : Int), -1, 0] ↔ _
    rw [eps_neg, mem_epsTo]
    constructor
    · rintro ⟨i, hi, hc, rfl⟩
      refine ⟨.at (((rows.getD q []).getD i 0).toNat, i) 0, ⟨⟨hi, (Int.toNat_of_nonneg hc).symm⟩, rfl⟩, ?_⟩
      show [(rows.getD q []).getD i 0, (i : Int), 0] = [((((rows.getD q []).getD i 0).toNat : Nat) : Int), (i : Int), ((0 : Nat) : Int)]
      rw [Int.toNat_of_nonneg hc] <;> rfl
    · rintro ⟨k', he, rfl⟩
      cases k' with
      | ov q' => exact he.elim
      | «at» j s =>
        obtain ⟨⟨h1, h2⟩, rfl⟩ := he
        refine ⟨j.2, h1, by rw [h2]; omega, ?_⟩
        rw [h2] <;> rfl
  | «at» j s =>
    show y ∈ eps vw rows [(j.1 : Int), (j.2 : Int), (s : Int)] ↔ _
    rw [eps_pos]
    constructor
    · intro h
      split at h
      · rename_i c
        rw [List.mem_singleton.mp h]
        exact ⟨.ov j.1, ⟨c, rfl⟩, rfl⟩
      · cases h
    · rintro ⟨k', he, rfl⟩
      cases k' with
      | ov q' =>
        obtain ⟨h1, rfl⟩ := he
        have h1 : s ∈ (vw.getD j.2 ([], [])).2 := h1
        rw [if_pos h1]
        exact List.mem_singleton.mpr rfl
      | «at» j' s' => exact he.elim
theorem lat_tok {vw : List View} {rows : List (List Int)} {k : Tk (Nat × Nat)} {l : Nat} {y : T3} : latO1 vw l (tok k) = some y ↔ ∃ k', (jOp vw rows).lt l k k' ∧ y = tok k' := by
  cases k with
  | ov q =>
    constructor
    · intro h
      cases h
    · rintro ⟨k', he, _⟩
      exact he.elim
  | «at» j s =>
    have e : latO1 vw l (tok (.at j s)) = some (tok (.at j (go (vw.getD j.2 ([], [])).1 s l))) := by
      show (if (0 : Int) ≤ (j.2 : Int) then some _ else none) = _
      rw [if_pos (by omega)]
      simp only [Int.toNat_natCast]
      rfl
    rw [e]
    constructor
    · intro h
      exact ⟨.at j (go (vw.getD j.2 ([], [])).1 s l), ⟨rfl, rfl⟩, (Option.some.inj h).symm⟩
    · rintro ⟨k', he, rfl⟩
      cases k' with
      | ov q' => exact he.elim
      | «at» j' s' =>
        obtain ⟨rfl, h2⟩ := he
        have h2 : s' = go (vw.getD j'.2 ([], [])).1 s l := h2
        rw [h2]
theorem rch_tok {vw : List View} {rows : List (List Int)} {st : List T3} {B : Tk (Nat × Nat) → Prop} (h : ∀ t, t ∈ st ↔ ∃ k, B k ∧ t = tok k) (t : T3) : Rch (eps vw rows) st t ↔ ∃ k, Rc (jOp vw rows).e B k ∧ t = tok k := by
  constructor
  · intro hr
    induction hr with
    | base hm =>
      obtain ⟨k, h1, h2⟩ := (h _).mp hm
      exact ⟨k, .base h1, h2⟩
    | step _ hy ih =>
      obtain ⟨k, h1, rfl⟩ := ih
      obtain ⟨k', h2, h3⟩ := eps_tok.mp hy
      exact ⟨k', .step h1 h2, h3⟩
  · rintro ⟨k, hr, rfl⟩
    induction hr with
    | base hb => exact .base ((h _).mpr ⟨_, hb, rfl⟩)
    | step _ he ih => exact .step ih (eps_tok.mpr ⟨_, he, rfl⟩)
section
variable {vw : List View} {rows : List (List Int)} {m : Nat}
theorem op_mem (W : Wf vw rows) (V : ∀ v ∈ vw, Valid m v.1 v.2) (r1 : 1 ≤ rows.length) (w : List Nat) : (∀ l ∈ w, l < m) → (∀ t ∈ w.foldl (stepO vw rows) (x0O vw rows), t ∈ univ vw rows.length) ∧ ∀ t, t ∈ w.foldl (stepO vw rows) (x0O vw rows) ↔ ∃ k, (jOp vw rows).SW w k ∧ t = tok k := by
  revert w
  refine snocInd (fun _ => ?_) fun w l ih hw => ?_
  · have h0 := univ_start (vw := vw) r1
    refine ⟨fun t ht => Rch.sub h0 (fun t ht => eps_ok W ht) ((mem_cloL W h0).mp ht), fun t => ?_⟩
    show t ∈ cloL leT vw rows [[0, -1, 0]] ↔ _
    rw [mem_cloL W h0]
    refine rch_tok (fun t => ?_) t
    rw [List.mem_singleton]
    constructor
    · rintro rfl
      exact ⟨.ov 0, rfl, rfl⟩
    · rintro ⟨k, rfl, rfl⟩
      rfl
  · obtain ⟨i1, i2⟩ := ih fun x hx => hw x (List.mem_append_left _ hx)
    have hl : l < m := hw l (List.mem_append_right _ List.mem_cons_self)
    have h0 := latO_ok V i1 hl
    rw [List.foldl_append]
    refine ⟨fun t ht => Rch.sub h0 (fun t ht => eps_ok W ht) ((mem_cloL W h0).mp ht), fun t => ?_⟩
    show t ∈ cloL leT vw rows (latO vw (w.foldl (stepO vw rows) (x0O vw rows)) l) ↔ _
    rw [mem_cloL W h0, Nf.SW_snoc]
    refine rch_tok (fun t => ?_) t
    unfold latO
    rw [List.mem_filterMap]
    constructor
    · rintro ⟨u, hu, e⟩
      obtain ⟨k, hk, rfl⟩ := (i2 u).mp hu
      obtain ⟨k', h1, h2⟩ := lat_tok.mp e
      exact ⟨k', ⟨k, hk, h1⟩, h2⟩
    · rintro ⟨k', ⟨k, hk, h1⟩, rfl⟩
      exact ⟨tok k, (i2 _).mpr ⟨k, hk, rfl⟩, lat_tok.mpr ⟨k', h1, rfl⟩⟩
theorem isO_tok {en : List Nat} {x : S} {P : Tk (Nat × Nat) → Prop} (h : ∀ t, t ∈ x ↔ ∃ k, P k ∧ t = tok k) : isO en x = true ↔ accK en P := by
  unfold isO
  rw [List.any_eq_true]
  constructor
  · rintro ⟨t, ht, e⟩
    obtain ⟨k, hk, rfl⟩ := (h t).mp ht
    cases k with
    | ov q =>
      have e : (decide ((-1 : Int) < 0) && decide ((q : Int).toNat ∈ en)) = true := e
      rw [Bool.and_eq_true] at e
      exact ⟨q, of_decide_eq_true e.2, hk⟩
    | «at» j s =>
      have e : (decide ((j.2 : Int) < 0) && decide ((j.1 : Int).toNat ∈ en)) = true := e
      rw [Bool.and_eq_true] at e
      have := of_decide_eq_true e.1
      omega
  · rintro ⟨q, hq, hk⟩
    refine ⟨tok (.ov q), (h _).mpr ⟨_, hk, rfl⟩, ?_⟩
    show (decide ((-1 : Int) < 0) && decide ((q : Int).toNat ∈ en)) = true
    rw [Bool.and_eq_true]
    exact ⟨rfl, decide_eq_true hq⟩
/-- what opened_by's machine lets -/
theorem opL_iff {en : List Nat} (W : Wf vw rows) (V : ∀ v ∈ vw, Valid m v.1 v.2) (r1 : 1 ≤ rows.length) {w : List Nat} : opL vw rows en m w = true ↔ (∀ l ∈ w, l < m) ∧ ∃ q ∈ en, Pcs (jOp vw rows).E q w := by
  show ((w.all fun l => decide (l < m)) && isO en (w.foldl (stepO vw rows) (x0O vw rows))) = true ↔ _
  rw [Bool.and_eq_true, List.all_eq_true]
  constructor
  · rintro ⟨h1, h2⟩
    have h1 : ∀ l ∈ w, l < m := fun l hl => of_decide_eq_true (h1 l hl)
    exact ⟨h1, Nf.acc_iff.mp ((isO_tok (op_mem W V r1 w h1).2).mp h2)⟩
  · rintro ⟨h1, h2⟩
    exact ⟨fun l hl => decide_eq_true (h1 l hl), (isO_tok (op_mem W V r1 w h1).2).mpr (Nf.acc_iff.mpr h2)⟩
theorem pth_run' {st : List (List Nat)} : ∀ (b : List Nat) (s : Nat), Pth (fun l s s' => s' = go st s l) b s ↔ run st 0 b = s := by
  refine snocInd (fun s => ?_) fun w l ih s => ?_
  · exact ⟨fun h => h.inv0.symm, fun h => by rw [← h]; exact .nil⟩
  · rw [run_app]
    constructor
    · intro h
      obtain ⟨s0, h1, h2⟩ := h.inv
      rw [(ih _).mp h1, h2] <;> rfl
    · intro h
      exact .snoc ((ih _).mpr rfl) h.symm
theorem pth_run {st : List (List Nat)} {b : List Nat} {s : Nat} : Pth (fun l s s' => s' = go st s l) b s ↔ run st 0 b = s := pth_run' b s
/-- the pieces of views -/
def EdV (vw : List View) (rows : List (List Int)) (q : Nat) (b : List Nat) (q' : Nat) : Prop := ∃ v, v < (rows.getD q []).length ∧ (rows.getD q []).getD v 0 = (q' : Int) ∧ run (vw.getD v ([], [])).1 0 b ∈ (vw.getD v ([], [])).2
theorem jOp_E {q q' : Nat} {b : List Nat} : (jOp vw rows).E q b q' ↔ EdV vw rows q b q' := by
  constructor
  · rintro ⟨⟨t, v⟩, ⟨h1, h2⟩, rfl, s, hp, hf⟩
    refine ⟨v, h1, h2, ?_⟩
    have hp : run (vw.getD v ([], [])).1 0 b = s := pth_run.mp hp
    rw [hp]
    exact hf
  · rintro ⟨v, h1, h2, h3⟩
    exact ⟨(q', v), ⟨h1, h2⟩, rfl, _, pth_run.mpr rfl, h3⟩
theorem opL_iff' {en : List Nat} (W : Wf vw rows) (V : ∀ v ∈ vw, Valid m v.1 v.2) (r1 : 1 ≤ rows.length) {w : List Nat} : opL vw rows en m w = true ↔ (∀ l ∈ w, l < m) ∧ ∃ q ∈ en, Pcs (EdV vw rows) q w := by
  have e : (jOp vw rows).E = EdV vw rows := by
    funext q b q'
    exact propext jOp_E
  rw [opL_iff W V r1, e]
end
end K81
end
section
set_option Elab.async false
set_option linter.all false
/-! Lanes: the standings of many automata at once. -/
namespace K81L
open K81M
structure Alg (α : Type) where
  and : α → α → α
  or : α → α → α
  xor : α → α → α
  bot : α
  top : α
structure Slot where
  p : Nat
  src : List Nat
  t : Nat
deriving DecidableEq
/-- a tree of words; at a leaf which of the nodes may have its standing -/
inductive Tri where
  | lf (m : Nat)
  | nd (a b : Tri)
noncomputable def Tri.nodes (T : Tri) : List Nat → List (List Nat) :=
  Tri.rec (motive := fun _ => List Nat → List (List Nat)) (fun _ _ => []) (fun _ _ ia ib p => p :: (ia (0 :: p) ++ ib (1 :: p))) T
noncomputable def pick (all : List (List Nat)) : Nat → List (List Nat) :=
  List.rec (motive := fun _ => Nat → List (List Nat)) (fun _ => []) (fun x _ ih m => cond (Nat.beq (Nat.mod m 2) 1) (x :: ih (Nat.div m 2)) (ih (Nat.div m 2))) all
section
variable {α : Type} (A : Alg α) (nx : Nat → Nat → Nat → Nat → α) (fin : Nat → Nat → α) (sl : List Slot) (n : Nat)
noncomputable def orM {β : Type} (f : β → α) (xs : List β) : α := List.rec A.bot (fun x _ ih => A.or (f x) ih) xs
noncomputable def andM {β : Type} (f : β → α) (xs : List β) : α := List.rec A.top (fun x _ ih => A.and (f x) ih) xs
/-- of what stood: what is read with a letter -/
def Yl (X : Slot → Nat → α) (l : Nat) (s : Slot) (b : Nat) : α := A.or (A.or (A.and (X s 0) (nx s.p l 0 b)) (A.and (X s 1) (nx s.p l 1 b))) (A.and (X s 2) (nx s.p l 2 b))
/-- which states over the views are hit -/
noncomputable def hit (Y : Slot → Nat → α) (q : Nat) : α := orM A (fun s => cond (Nat.beq s.t q) (A.or (A.or (A.and (Y s 0) (fin s.p 0)) (A.and (Y s 1) (fin s.p 1))) (A.and (Y s 2) (fin s.p 2))) A.bot) sl
noncomputable def eps1 (e : Nat → α) (q : Nat) : α := orM A (fun s => cond (Nat.beq s.t q) (A.and (orM A e s.src) (fin s.p 0)) A.bot) sl
noncomputable def Ei (h : Nat → α) (i : Nat) : Nat → α := Nat.rec h (fun _ e q => A.or (e q) (eps1 A fin sl e q)) i
noncomputable def Xof (Y : Slot → Nat → α) (e : Nat → α) (s : Slot) (a : Nat) : α := cond (Nat.beq a 0) (A.or (Y s 0) (orM A e s.src)) (Y s a)
def h0 (q : Nat) : α := cond (Nat.beq q 0) A.top A.bot
/-- the standing behind a word (its letters from the last one) -/
noncomputable def Xw (w : List Nat) : Slot → Nat → α :=
  List.rec (Xof A (fun _ _ => A.bot) (Ei A fin sl (h0 A) n)) (fun l _ ih => Xof A (Yl A nx ih l) (Ei A fin sl (hit A fin sl (Yl A nx ih l)) n)) w
noncomputable def Ew (w : List Nat) (i : Nat) : Nat → α :=
  List.rec (Ei A fin sl (h0 A) i) (fun l r _ => Ei A fin sl (hit A fin sl (Yl A nx (Xw A nx fin sl n r) l)) i) w
/-- where two words' standings are not the same -/
noncomputable def neW (qs : List Nat) (w v : List Nat) : α :=
  A.or (orM A (fun s => A.or (A.or (A.xor (Xw A nx fin sl n w s 0) (Xw A nx fin sl n v s 0)) (A.xor (Xw A nx fin sl n w s 1) (Xw A nx fin sl n v s 1))) (A.xor (Xw A nx fin sl n w s 2) (Xw A nx fin sl n v s 2))) sl)
    (orM A (fun q => A.xor (Ew A nx fin sl n w n q) (Ew A nx fin sl n v n q)) qs)
noncomputable def clW (qs : List Nat) (w : List Nat) : α := orM A (fun q => A.xor (Ew A nx fin sl n w n q) (Ew A nx fin sl n w (n + 1) q)) qs
noncomputable def badT (qs : List Nat) (all : List (List Nat)) (T : Tri) : List Nat → α :=
  Tri.rec (motive := fun _ => List Nat → α) (fun m p => A.or (clW A nx fin sl n qs p) (andM A (fun c => neW A nx fin sl n qs p c) (pick all m)))
    (fun _ _ ia ib p => A.or (clW A nx fin sl n qs p) (A.or (ia (0 :: p)) (ib (1 :: p)))) T
/-- the lanes at which the tree's words don't have all standings -/
noncomputable def bad (qs : List Nat) (T : Tri) : α := badT A nx fin sl n qs (T.nodes []) T []
end
/-! ### from lanes to one lane -/
def AB : Alg Bool := ⟨and, or, xor, false, true⟩
structure Hom {α : Type} (A : Alg α) (φ : α → Bool) : Prop where
  and : ∀ a b, φ (A.and a b) = (φ a && φ b)
  or : ∀ a b, φ (A.or a b) = (φ a || φ b)
  xor : ∀ a b, φ (A.xor a b) = Bool.xor (φ a) (φ b)
  bot : φ A.bot = false
  top : φ A.top = true
section
variable {α : Type} {A : Alg α} {φ : α → Bool} (F : Hom A φ) {nx : Nat → Nat → Nat → Nat → α} {fin : Nat → Nat → α} {sl : List Slot} {n : Nat}
include F
theorem orM_hom {β : Type} {f : β → α} {g : β → Bool} (h : ∀ x, φ (f x) = g x) (xs : List β) : φ (orM A f xs) = orM AB g xs := by
  induction xs with
  | nil => exact F.bot
  | cons x xs ih =>
    show φ (A.or (f x) (orM A f xs)) = (g x || orM AB g xs)
    rw [F.or, h, ih]
theorem andM_hom {β : Type} {f : β → α} {g : β → Bool} (h : ∀ x, φ (f x) = g x) (xs : List β) : φ (andM A f xs) = andM AB g xs := by
  induction xs with
  | nil => exact F.top
  | cons x xs ih =>
    show φ (A.and (f x) (andM A f xs)) = (g x && andM AB g xs)
    rw [F.and, h, ih]
theorem cond_hom {c : Bool} {a b : α} {a' b' : Bool} (h1 : φ a = a') (h2 : φ b = b') : φ (cond c a b) = cond c a' b' := by cases c <;> assumption
theorem Yl_hom {X : Slot → Nat → α} {X' : Slot → Nat → Bool} (h : ∀ s a, φ (X s a) = X' s a) (l : Nat) (s : Slot) (b : Nat) : φ (Yl A nx X l s b) = Yl AB (fun p l a b => φ (nx p l a b)) X' l s b := by
  unfold Yl
  rw [F.or, F.or, F.and, F.and, F.and, h, h, h] <;> rfl
theorem hit_hom {Y : Slot → Nat → α} {Y' : Slot → Nat → Bool} (h : ∀ s a, φ (Y s a) = Y' s a) (q : Nat) : φ (hit A fin sl Y q) = hit AB (fun p a => φ (fin p a)) sl Y' q := by
  unfold hit
  refine orM_hom F (fun s => cond_hom F ?_ F.bot) sl
  rw [F.or, F.or, F.and, F.and, F.and, h, h, h] <;> rfl
theorem Ei_hom {h : Nat → α} {h' : Nat → Bool} (e : ∀ q, φ (h q) = h' q) (i : Nat) : ∀ q, φ (Ei A fin sl h i q) = Ei AB (fun p a => φ (fin p a)) sl h' i q := by
  induction i with
  | zero => exact e
  | succ i ih =>
    intro q
    show φ (A.or (Ei A fin sl h i q) (eps1 A fin sl (Ei A fin sl h i) q)) = (Ei AB _ sl h' i q || eps1 AB _ sl (Ei AB _ sl h' i) q)
    rw [F.or, ih]
    congr 1
    unfold eps1
    refine orM_hom F (fun s => cond_hom F ?_ F.bot) sl
    rw [F.and, orM_hom F ih] <;> rfl
theorem Xof_hom {Y : Slot → Nat → α} {Y' : Slot → Nat → Bool} {e : Nat → α} {e' : Nat → Bool} (h : ∀ s a, φ (Y s a) = Y' s a) (he : ∀ q, φ (e q) = e' q) (s : Slot) (a : Nat) : φ (Xof A Y e s a) = Xof AB Y' e' s a := by
  unfold Xof
  refine cond_hom F ?_ (h s a)
  rw [F.or, h, orM_hom F he] <;> rfl
theorem h0_hom (q : Nat) : φ (h0 A q) = h0 AB q := cond_hom F F.top F.bot
theorem Xw_hom (w : List Nat) : ∀ s a, φ (Xw A nx fin sl n w s a) = Xw AB (fun p l a b => φ (nx p l a b)) (fun p a => φ (fin p a)) sl n w s a := by
  induction w with
  | nil => exact Xof_hom F (fun _ _ => F.bot) (Ei_hom F (h0_hom F) n)
  | cons l w ih => exact Xof_hom F (Yl_hom F ih l) (Ei_hom F (hit_hom F (Yl_hom F ih l)) n)
theorem Ew_hom (w : List Nat) (i : Nat) : ∀ q, φ (Ew A nx fin sl n w i q) = Ew AB (fun p l a b => φ (nx p l a b)) (fun p a => φ (fin p a)) sl n w i q := by
  cases w with
  | nil => exact Ei_hom F (h0_hom F) i
  | cons l w => exact Ei_hom F (hit_hom F (Yl_hom F (Xw_hom F w) l)) i
theorem neW_hom {qs : List Nat} (w v : List Nat) : φ (neW A nx fin sl n qs w v) = neW AB (fun p l a b => φ (nx p l a b)) (fun p a => φ (fin p a)) sl n qs w v := by
  unfold neW
  rw [F.or]
  have h1 := orM_hom F (A := A) (f := fun s => A.or (A.or (A.xor (Xw A nx fin sl n w s 0) (Xw A nx fin sl n v s 0)) (A.xor (Xw A nx fin sl n w s 1) (Xw A nx fin sl n v s 1))) (A.xor (Xw A nx fin sl n w s 2) (Xw A nx fin sl n v s 2))) (fun s => by rw [F.or, F.or, F.xor, F.xor, F.xor, Xw_hom F, Xw_hom F, Xw_hom F, Xw_hom F, Xw_hom F, Xw_hom F]) sl
  have h2 := orM_hom F (A := A) (f := fun q => A.xor (Ew A nx fin sl n w n q) (Ew A nx fin sl n v n q)) (fun q => by rw [F.xor, Ew_hom F, Ew_hom F]) qs
  rw [h1, h2] <;> rfl
theorem clW_hom {qs : List Nat} (w : List Nat) : φ (clW A nx fin sl n qs w) = clW AB (fun p l a b => φ (nx p l a b)) (fun p a => φ (fin p a)) sl n qs w := by
  unfold clW
  exact orM_hom F (fun q => by rw [F.xor, Ew_hom F, Ew_hom F] <;> rfl) qs
theorem badT_hom {qs : List Nat} {all : List (List Nat)} (T : Tri) : ∀ p, φ (badT A nx fin sl n qs all T p) = badT AB (fun p l a b => φ (nx p l a b)) (fun p a => φ (fin p a)) sl n qs all T p := by
  induction T with
  | lf m =>
    intro p
    show φ (A.or (clW A nx fin sl n qs p) (andM A (fun c => neW A nx fin sl n qs p c) (pick all m))) = (clW AB _ _ sl n qs p || andM AB (fun c => neW AB _ _ sl n qs p c) (pick all m))
    rw [F.or, clW_hom F, andM_hom F (fun c => neW_hom F p c)]
  | nd a b ia ib =>
    intro p
    show φ (A.or (clW A nx fin sl n qs p) (A.or (badT A nx fin sl n qs all a (0 :: p)) (badT A nx fin sl n qs all b (1 :: p)))) = (clW AB _ _ sl n qs p || (badT AB _ _ sl n qs all a (0 :: p) || badT AB _ _ sl n qs all b (1 :: p)))
    rw [F.or, F.or, clW_hom F, ia, ib]
theorem bad_hom {qs : List Nat} (T : Tri) : φ (bad A nx fin sl n qs T) = bad AB (fun p l a b => φ (nx p l a b)) (fun p a => φ (fin p a)) sl n qs T := badT_hom F T []
end
end K81L
end
section
set_option Elab.async false
set_option linter.all false
/-! Lanes as bits of numbers. -/
namespace K81L
open K81M
def algN (full : Nat) : Alg Nat := ⟨Nat.land, Nat.lor, Nat.xor, 0, full⟩
theorem homN {full i : Nat} (h : full.testBit i = true) : Hom (algN full) fun x => x.testBit i where
  and := fun a b => Nat.testBit_and a b i
  or := fun a b => Nat.testBit_or a b i
  xor := fun a b => Nat.testBit_xor a b i
  bot := Nat.zero_testBit i
  top := h
/-- blocks of s bits one behind another -/
noncomputable def tile (s : Nat) (g : Nat → Nat) (n : Nat) : Nat := Nat.rec 0 (fun i r => Nat.add (Nat.mul (Nat.pow 2 (Nat.mul s i)) (g i)) r) n
theorem tile_succ {s : Nat} {g : Nat → Nat} {n : Nat} : tile s g (n + 1) = 2 ^ (s * n) * g n + tile s g n := rfl
theorem tile_lt {s : Nat} {g : Nat → Nat} (hg : ∀ i, g i < 2 ^ s) : ∀ n, tile s g n < 2 ^ (s * n)
  | 0 => by show 0 < 2 ^ (s * 0); rw [Nat.mul_zero]; decide
  | n + 1 => by
    rw [tile_succ, Nat.mul_succ, Nat.pow_add]
    have h1 := tile_lt hg n
    have h2 := hg n
    have h3 : 2 ^ (s * n) * (g n + 1) ≤ 2 ^ (s * n) * 2 ^ s := Nat.mul_le_mul_left _ h2
    rw [Nat.mul_add, Nat.mul_one] at h3
    omega
theorem tile_bit {s : Nat} {g : Nat → Nat} (hg : ∀ i, g i < 2 ^ s) {k r : Nat} (hr : r < s) : ∀ {n}, k < n → (tile s g n).testBit (s * k + r) = (g k).testBit r
  | 0, h => absurd h (Nat.not_lt_zero _)
  | n + 1, h => by
    rw [tile_succ, Nat.testBit_two_pow_mul_add _ (tile_lt hg n)]
    by_cases e : k < n
    · have h1 : s * (k + 1) ≤ s * n := Nat.mul_le_mul_left _ e
      rw [Nat.mul_succ] at h1
      rw [if_pos (by omega)]
      exact tile_bit hg hr e
    · have e : k = n := by omega
      subst e
      rw [if_neg (by omega), Nat.add_sub_cancel_left]
theorem ones_lt {s : Nat} {c : Bool} : cond c (Nat.sub (Nat.pow 2 s) 1) 0 < 2 ^ s := by
  have : 0 < 2 ^ s := Nat.two_pow_pos s
  cases c
  · exact this
  · show 2 ^ s - 1 < 2 ^ s
    omega
theorem ones_bit {s r : Nat} {c : Bool} (hr : r < s) : (cond c (Nat.sub (Nat.pow 2 s) 1) 0).testBit r = c := by
  cases c
  · exact Nat.zero_testBit r
  · show (2 ^ s - 1).testBit r = true
    rw [Nat.testBit_two_pow_sub_one]
    exact decide_eq_true hr
/-- the kinds of views: next states with a and b (9: none) and whether an end, of three states -/
def kinds : List (List Nat) := [[9,9,0,9,9,0,9,9,0],[0,0,1,9,9,0,9,9,0],[0,1,1,0,0,0,9,9,0],[0,1,0,0,0,1,9,9,0],[0,1,1,0,1,0,9,9,0],[0,1,0,0,1,1,9,9,0],[0,1,1,1,0,0,9,9,0],[0,1,0,1,0,1,9,9,0],[0,9,1,9,9,0,9,9,0],[0,1,0,1,1,1,9,9,0],
  [1,0,1,0,0,0,9,9,0],[1,0,0,0,0,1,9,9,0],[1,0,1,0,1,0,9,9,0],[1,0,0,0,1,1,9,9,0],[1,0,1,1,0,0,9,9,0],[1,0,0,1,0,1,9,9,0],[9,0,1,9,9,0,9,9,0],[1,0,0,1,1,1,9,9,0],[1,1,1,0,0,0,9,9,0],[1,1,0,0,0,1,9,9,0],
  [1,1,1,0,1,0,9,9,0],[1,1,0,0,1,1,9,9,0],[1,1,1,1,0,0,9,9,0],[1,1,0,1,0,1,9,9,0],[9,9,1,9,9,0,9,9,0],[1,1,0,1,1,1,9,9,0],[1,1,1,2,2,0,0,0,0],[1,9,0,9,9,1,9,9,0],[1,9,1,9,2,0,9,9,1]]
def knx (t l a b : Nat) : Bool := Nat.beq ((kinds.getD t []).getD (3 * a + l) 9) b
def kfin (t a : Nat) : Bool := Nat.beq ((kinds.getD t []).getD (3 * a + 2) 0) 1
/-- the lanes at which the kind at a place has a property: lane i is t0 + 29 * (t1 + 29 * t2) -/
noncomputable def mk (p : Nat) (f : Nat → Bool) : Nat := Nat.rec (tile 841 (fun _ => tile 29 (fun _ => tile 1 (fun t => cond (f t) 1 0) 29) 29) 29)
  (fun p _ => Nat.rec (tile 841 (fun _ => tile 29 (fun t => cond (f t) 536870911 0) 29) 29) (fun _ _ => tile 841 (fun t => cond (f t) (Nat.sub (Nat.pow 2 841) 1) 0) 29) p) p
noncomputable def nxN (p l a b : Nat) : Nat := mk p fun t => knx t l a b
noncomputable def finN (p a : Nat) : Nat := mk p fun t => kfin t a
def fullN : Nat := 2 ^ 24389 - 1
noncomputable def badAll {α : Type} (A : Alg α) (nx : Nat → Nat → Nat → Nat → α) (fin : Nat → Nat → α) (sl : List Slot) (n : Nat) (qs : List Nat) (Ts : List Tri) : α := andM A (fun T => bad A nx fin sl n qs T) Ts
def laneOf (h : Nat × Nat × Nat) : Nat := h.1 + 29 * (h.2.1 + 29 * h.2.2)
noncomputable def hardN (hs : List (Nat × Nat × Nat)) : Nat := List.rec 0 (fun h _ ih => Nat.lor (Nat.pow 2 (laneOf h)) ih) hs
end K81L
end
section
set_option Elab.async false
set_option linter.all false
/-! One lane: the standings told by the search are the automaton's; few residuals. -/
namespace K81L
open K81M
theorem xor_f {a b : Bool} (h : Bool.xor a b = false) : a = b := by
  cases a <;> cases b <;> first | rfl | cases h
theorem orM_iff {β : Type} {f : β → Bool} {xs : List β} : orM AB f xs = true ↔ ∃ x ∈ xs, f x = true := by
  induction xs with
  | nil =>
    constructor
    · intro h; cases h
    · rintro ⟨x, hx, _⟩; cases hx
  | cons x xs ih =>
    show (f x || orM AB f xs) = true ↔ _
    rw [Bool.or_eq_true, ih]
    constructor
    · rintro (h | ⟨y, h1, h2⟩)
      · exact ⟨x, List.mem_cons_self, h⟩
      · exact ⟨y, List.mem_cons_of_mem _ h1, h2⟩
    · rintro ⟨y, h1, h2⟩
      rcases List.mem_cons.mp h1 with rfl | h1
      · exact .inl h2
      · exact .inr ⟨y, h1, h2⟩
theorem orM_false {β : Type} {f : β → Bool} {xs : List β} (h : orM AB f xs = false) : ∀ x ∈ xs, f x = false := fun x hx => by
  cases e : f x with
  | false => rfl
  | true => rw [orM_iff.mpr ⟨x, hx, e⟩] at h; cases h
theorem andM_false {β : Type} {f : β → Bool} {xs : List β} (h : andM AB f xs = false) : ∃ x ∈ xs, f x = false := by
  induction xs with
  | nil => cases h
  | cons x xs ih =>
    have h : (f x && andM AB f xs) = false := h
    cases e : f x with
    | false => exact ⟨x, List.mem_cons_self, e⟩
    | true =>
      rw [e, Bool.true_and] at h
      obtain ⟨y, h1, h2⟩ := ih h
      exact ⟨y, List.mem_cons_of_mem _ h1, h2⟩
theorem cond_beq {a b : Nat} {x : Bool} : cond (Nat.beq a b) x false = true ↔ a = b ∧ x = true := by
  cases h : Nat.beq a b with
  | true => exact ⟨fun hx => ⟨Nat.eq_of_beq_eq_true h, hx⟩, fun hx => hx.2⟩
  | false => exact ⟨fun hx => (by cases hx), fun hx => absurd hx.1 (Nat.ne_of_beq_eq_false h)⟩
section
variable (nx : Nat → Nat → Nat → Nat → Bool) (fin : Nat → Nat → Bool) (sl : List Slot)
def nfL : Nf Slot where
  src := fun q s => s ∈ sl ∧ q ∈ s.src
  tgt := fun s => s.t
  nx := fun s l a b => (a < 3 ∧ b < 3) ∧ nx s.p l a b = true
  fin := fun s a => a < 3 ∧ fin s.p a = true
variable {nx : Nat → Nat → Nat → Nat → Bool} {fin : Nat → Nat → Bool} {sl : List Slot} {n : Nat}
theorem eps1_iff {e : Nat → Bool} {q : Nat} : eps1 AB fin sl e q = true ↔ ∃ s ∈ sl, s.t = q ∧ (∃ q' ∈ s.src, e q' = true) ∧ fin s.p 0 = true := by
  unfold eps1
  rw [orM_iff]
  constructor
  · rintro ⟨s, hs, h⟩
    obtain ⟨h1, h2⟩ := cond_beq.mp h
    have h2 : (orM AB e s.src && fin s.p 0) = true := h2
    rw [Bool.and_eq_true, orM_iff] at h2
    exact ⟨s, hs, h1, h2.1, h2.2⟩
  · rintro ⟨s, hs, h1, h2, h3⟩
    refine ⟨s, hs, cond_beq.mpr ⟨h1, ?_⟩⟩
    show (orM AB e s.src && fin s.p 0) = true
    rw [Bool.and_eq_true, orM_iff]
    exact ⟨h2, h3⟩
theorem lt3 {a : Nat} (h : a < 3) : a = 0 ∨ a = 1 ∨ a = 2 := by omega
theorem three {f : Nat → Bool} : (f 0 || f 1 || f 2) = true ↔ ∃ a, a < 3 ∧ f a = true := by
  rw [Bool.or_eq_true, Bool.or_eq_true]
  constructor
  · rintro ((h | h) | h)
    · exact ⟨0, by decide, h⟩
    · exact ⟨1, by decide, h⟩
    · exact ⟨2, by decide, h⟩
  · rintro ⟨a, h3, h⟩
    rcases lt3 h3 with rfl | rfl | rfl
    · exact .inl (.inl h)
    · exact .inl (.inr h)
    · exact .inr h
theorem hit_iff {Y : Slot → Nat → Bool} {q : Nat} : hit AB fin sl Y q = true ↔ ∃ s ∈ sl, s.t = q ∧ ∃ a, a < 3 ∧ Y s a = true ∧ fin s.p a = true := by
  unfold hit
  rw [orM_iff]
  have e : ∀ s : Slot, (AB.or (AB.or (AB.and (Y s 0) (fin s.p 0)) (AB.and (Y s 1) (fin s.p 1))) (AB.and (Y s 2) (fin s.p 2))) = true ↔ ∃ a, a < 3 ∧ Y s a = true ∧ fin s.p a = true := fun s => by
    have := three (f := fun a => Y s a && fin s.p a)
    simp only [Bool.and_eq_true] at this
    exact this
  constructor
  · rintro ⟨s, hs, h⟩
    obtain ⟨h1, h2⟩ := cond_beq.mp h
    exact ⟨s, hs, h1, (e s).mp h2⟩
  · rintro ⟨s, hs, h1, h2⟩
    exact ⟨s, hs, cond_beq.mpr ⟨h1, (e s).mpr h2⟩⟩
theorem Yl_iff {X : Slot → Nat → Bool} {l b : Nat} {s : Slot} : Yl AB nx X l s b = true ↔ ∃ a, a < 3 ∧ X s a = true ∧ nx s.p l a b = true := by
  have := three (f := fun a => X s a && nx s.p l a b)
  simp only [Bool.and_eq_true] at this
  exact this
theorem Ei_mono {h : Nat → Bool} {q : Nat} (h0 : h q = true) : ∀ i, Ei AB fin sl h i q = true
  | 0 => h0
  | i + 1 => by
    show (Ei AB fin sl h i q || eps1 AB fin sl (Ei AB fin sl h i) q) = true
    rw [Ei_mono h0 i] <;> rfl
/-- a standing told is the closure of its start -/
theorem told_core {Y : Slot → Nat → Bool} {h : Nat → Bool} {B : Tk Slot → Prop} (hY : ∀ s ∈ sl, ∀ a, a < 3 → (Y s a = true ↔ B (.at s a))) (hB : ∀ s a, B (.at s a) → s ∈ sl ∧ a < 3)
    (hh : ∀ q, h q = true ↔ (B (.ov q) ∨ ∃ s ∈ sl, s.t = q ∧ ∃ a, a < 3 ∧ Y s a = true ∧ fin s.p a = true)) (cl : ∀ s ∈ sl, Ei AB fin sl h n s.t = Ei AB fin sl h (n + 1) s.t) :
    (∀ q, Ei AB fin sl h n q = true ↔ Rc (nfL nx fin sl).e B (.ov q)) ∧ (∀ s ∈ sl, ∀ a, a < 3 → (Xof AB Y (Ei AB fin sl h n) s a = true ↔ Rc (nfL nx fin sl).e B (.at s a))) ∧ ∀ s a, Rc (nfL nx fin sl).e B (.at s a) → s ∈ sl ∧ a < 3 := by
  have X0 : ∀ (e : Nat → Bool) s, Xof AB Y e s 0 = (Y s 0 || orM AB e s.src) := fun _ _ => rfl
  have Xs : ∀ (e : Nat → Bool) s a, a ≠ 0 → Xof AB Y e s a = Y s a := fun e s a ha => by
    match a, ha with
    | a + 1, _ => rfl
  have f1 : ∀ i q, Ei AB fin sl h i q = true → Rc (nfL nx fin sl).e B (.ov q) := by
    intro i
    induction i with
    | zero =>
      intro q hq
      rcases (hh q).mp hq with hb | ⟨s, hs, rfl, a, ha, hy, hf⟩
      · exact .base hb
      · exact .step (.base ((hY s hs a ha).mp hy)) ⟨⟨ha, hf⟩, rfl⟩
    | succ i ih =>
      intro q hq
      have hq : (Ei AB fin sl h i q || eps1 AB fin sl (Ei AB fin sl h i) q) = true := hq
      rw [Bool.or_eq_true] at hq
      rcases hq with hq | hq
      · exact ih q hq
      · obtain ⟨s, hs, rfl, ⟨q', hq', he⟩, hf⟩ := eps1_iff.mp hq
        have s1 : Rc (nfL nx fin sl).e B (.at s 0) := .step (ih q' he) (show (nfL nx fin sl).e (.ov q') (.at s 0) from ⟨⟨hs, hq'⟩, rfl⟩)
        exact .step s1 (show (nfL nx fin sl).e (.at s 0) (.ov s.t) from ⟨⟨by decide, hf⟩, rfl⟩)
  have back : ∀ t, Rc (nfL nx fin sl).e B t → match t with
      | .ov q => Ei AB fin sl h n q = true
      | .at s a => s ∈ sl ∧ a < 3 ∧ Xof AB Y (Ei AB fin sl h n) s a = true := by
    intro t ht
    induction ht with
    | @base t hb =>
      cases t with
      | ov q => exact Ei_mono ((hh q).mpr (.inl hb)) n
      | «at» s a =>
        obtain ⟨h1, h2⟩ := hB s a hb
        refine ⟨h1, h2, ?_⟩
        have hy := (hY s h1 a h2).mpr hb
        by_cases e : a = 0
        · subst e
          rw [X0, hy] <;> rfl
        · rw [Xs _ _ _ e]; exact hy
    | @step t y _ he ih =>
      cases t with
      | ov q =>
        cases y with
        | ov q' => exact he.elim
        | «at» s a =>
          obtain ⟨⟨h1, h2⟩, rfl⟩ := he
          refine ⟨h1, by decide, ?_⟩
          rw [X0, Bool.or_eq_true]
          exact .inr (orM_iff.mpr ⟨q, h2, ih⟩)
      | «at» s a =>
        cases y with
        | ov q' =>
          obtain ⟨⟨h1, h2⟩, rfl⟩ := he
          obtain ⟨i1, i2, i3⟩ := ih
          show Ei AB fin sl h n s.t = true
          have yes : Y s a = true → Ei AB fin sl h n s.t = true := fun hy => Ei_mono ((hh s.t).mpr (.inr ⟨s, i1, rfl, a, h1, hy, h2⟩)) n
          by_cases e : a = 0
          · subst e
            rw [X0, Bool.or_eq_true] at i3
            rcases i3 with hy | hy
            · exact yes hy
            · rw [cl s i1]
              show (Ei AB fin sl h n s.t || eps1 AB fin sl (Ei AB fin sl h n) s.t) = true
              rw [Bool.or_eq_true]
              exact .inr (eps1_iff.mpr ⟨s, i1, rfl, orM_iff.mp hy, h2⟩)
          · rw [Xs _ _ _ e] at i3
            exact yes i3
        | «at» s' a' => exact he.elim
  refine ⟨fun q => ⟨f1 n q, back (.ov q)⟩, fun s hs a ha => ⟨fun hx => ?_, fun hr => (back (.at s a) hr).2.2⟩, fun s a hr => ⟨(back (.at s a) hr).1, (back (.at s a) hr).2.1⟩⟩
  by_cases e : a = 0
  · subst e
    rw [X0, Bool.or_eq_true] at hx
    rcases hx with hy | hy
    · exact .base ((hY s hs 0 (by decide)).mp hy)
    · obtain ⟨q, hq, he⟩ := orM_iff.mp hy
      exact .step (f1 n q he) ⟨⟨hs, hq⟩, rfl⟩
  · rw [Xs _ _ _ e] at hx
    exact .base ((hY s hs a ha).mp hx)
/-- the search tells the standing behind a word -/
structure Ex (nx : Nat → Nat → Nat → Nat → Bool) (fin : Nat → Nat → Bool) (sl : List Slot) (n : Nat) (w : List Nat) : Prop where
  ov : ∀ q, Ew AB nx fin sl n w n q = true ↔ (nfL nx fin sl).SW w.reverse (.ov q)
  at_ : ∀ s ∈ sl, ∀ a, a < 3 → (Xw AB nx fin sl n w s a = true ↔ (nfL nx fin sl).SW w.reverse (.at s a))
  inn : ∀ s a, (nfL nx fin sl).SW w.reverse (.at s a) → s ∈ sl ∧ a < 3
theorem cl_of {qs : List Nat} (hq : ∀ s ∈ sl, s.t ∈ qs) {w : List Nat} (h : clW AB nx fin sl n qs w = false) : ∀ s ∈ sl, Ew AB nx fin sl n w n s.t = Ew AB nx fin sl n w (n + 1) s.t := fun s hs => by
  have := orM_false h s.t (hq s hs)
  have this : Bool.xor (Ew AB nx fin sl n w n s.t) (Ew AB nx fin sl n w (n + 1) s.t) = false := this
  exact xor_f this
theorem ex_nil {qs : List Nat} (hq : ∀ s ∈ sl, s.t ∈ qs) (h : clW AB nx fin sl n qs [] = false) : Ex nx fin sl n [] := by
  have c := cl_of hq h
  obtain ⟨h1, h2, h3⟩ := told_core (nx := nx) (fin := fin) (sl := sl) (n := n) (Y := fun _ _ => false) (h := h0 AB) (B := fun t => t = .ov 0) (fun s _ a _ => ⟨fun z => (by cases z), fun z => (by cases z)⟩) (fun s a z => by cases z) (fun q => by
    show cond (Nat.beq q 0) true false = true ↔ _
    rw [cond_beq]
    constructor
    · rintro ⟨rfl, _⟩; exact .inl rfl
    · rintro (z | ⟨s, _, _, a, _, z, _⟩)
      · cases z; exact ⟨rfl, rfl⟩
      · cases z) c
  exact ⟨h1, h2, h3⟩
theorem ex_cons {qs : List Nat} (hq : ∀ s ∈ sl, s.t ∈ qs) {w : List Nat} {l : Nat} (X : Ex nx fin sl n w) (h : clW AB nx fin sl n qs (l :: w) = false) : Ex nx fin sl n (l :: w) := by
  have c := cl_of hq h
  have e : (nfL nx fin sl).SW (l :: w).reverse = (nfL nx fin sl).stp ((nfL nx fin sl).SW w.reverse) l := by rw [List.reverse_cons, Nf.SW_snoc]
  have hY : ∀ s ∈ sl, ∀ b, b < 3 → (Yl AB nx (Xw AB nx fin sl n w) l s b = true ↔ ∃ t, (nfL nx fin sl).SW w.reverse t ∧ (nfL nx fin sl).lt l t (.at s b)) := fun s hs b hb => by
    rw [Yl_iff]
    constructor
    · rintro ⟨a, ha, hx, hn⟩
      exact ⟨.at s a, (X.at_ s hs a ha).mp hx, rfl, ⟨ha, hb⟩, hn⟩
    · rintro ⟨t, ht, hl⟩
      cases t with
      | ov q => exact hl.elim
      | «at» s' a =>
        obtain ⟨rfl, ⟨ha, _⟩, hn⟩ := hl
        exact ⟨a, ha, (X.at_ s hs a ha).mpr ht, hn⟩
  obtain ⟨h1, h2, h3⟩ := told_core (nx := nx) (fin := fin) (sl := sl) (n := n) (Y := Yl AB nx (Xw AB nx fin sl n w) l) (h := hit AB fin sl (Yl AB nx (Xw AB nx fin sl n w) l)) (B := fun y => ∃ t, (nfL nx fin sl).SW w.reverse t ∧ (nfL nx fin sl).lt l t y) hY (fun s a z => by
      obtain ⟨t, ht, hl⟩ := z
      cases t with
      | ov q => exact hl.elim
      | «at» s' a' =>
        obtain ⟨rfl, ⟨_, hb⟩, _⟩ := hl
        exact ⟨(X.inn _ _ ht).1, hb⟩) (fun q => by
      rw [hit_iff]
      constructor
      · exact .inr
      · rintro (⟨t, _, hl⟩ | z)
        · cases t <;> exact hl.elim
        · exact z) c
  refine ⟨fun q => ?_, fun s hs a ha => ?_, fun s a => ?_⟩
  · rw [e]; exact h1 q
  · rw [e]; exact h2 s hs a ha
  · rw [e]; exact h3 s a
/-- which states over the views come at all -/
theorem ov_in (w : List Nat) : ∀ q, (nfL nx fin sl).SW w (.ov q) → q = 0 ∨ ∃ s ∈ sl, s.t = q := fun q h => by
  have key := (Nf.SW_iff w (.ov q)).mp h
  have key : Pcs (nfL nx fin sl).E q w := key
  cases key with
  | nil => exact .inl rfl
  | piece _ he =>
    obtain ⟨s, hs, ht, _⟩ := he
    exact .inr ⟨s, hs.1, ht⟩
theorem same_SW {qs : List Nat} (h0 : 0 ∈ qs) (hq : ∀ s ∈ sl, s.t ∈ qs) {w v : List Nat} (X : Ex nx fin sl n w) (X' : Ex nx fin sl n v) (h : neW AB nx fin sl n qs w v = false) : (nfL nx fin sl).SW w.reverse = (nfL nx fin sl).SW v.reverse := by
  have h : (orM AB _ sl || orM AB _ qs) = false := h
  obtain ⟨h1, h2⟩ := Bool.or_eq_false_iff.mp h
  have e1 : ∀ s ∈ sl, ∀ a, a < 3 → Xw AB nx fin sl n w s a = Xw AB nx fin sl n v s a := fun s hs a ha => by
    have z := orM_false h1 s hs
    have z : ((Bool.xor (Xw AB nx fin sl n w s 0) (Xw AB nx fin sl n v s 0) || Bool.xor (Xw AB nx fin sl n w s 1) (Xw AB nx fin sl n v s 1)) || Bool.xor (Xw AB nx fin sl n w s 2) (Xw AB nx fin sl n v s 2)) = false := z
    obtain ⟨z, z3⟩ := Bool.or_eq_false_iff.mp z
    obtain ⟨z1, z2⟩ := Bool.or_eq_false_iff.mp z
    rcases lt3 ha with rfl | rfl | rfl
    · exact xor_f z1
    · exact xor_f z2
    · exact xor_f z3
  have e2 : ∀ q ∈ qs, Ew AB nx fin sl n w n q = Ew AB nx fin sl n v n q := fun q hq => xor_f (orM_false h2 q hq)
  funext t
  apply propext
  cases t with
  | ov q =>
    by_cases hqs : q ∈ qs
    · rw [← X.ov q, ← X'.ov q, e2 q hqs]
    · constructor
      · intro z
        rcases ov_in _ _ z with rfl | ⟨s, hs, rfl⟩
        · exact absurd h0 hqs
        · exact absurd (hq s hs) hqs
      · intro z
        rcases ov_in _ _ z with rfl | ⟨s, hs, rfl⟩
        · exact absurd h0 hqs
        · exact absurd (hq s hs) hqs
  | «at» s a =>
    by_cases hs : s ∈ sl ∧ a < 3
    · rw [← X.at_ s hs.1 a hs.2, ← X'.at_ s hs.1 a hs.2, e1 s hs.1 a hs.2]
    · exact ⟨fun z => absurd (X.inn _ _ z) hs, fun z => absurd (X'.inn _ _ z) hs⟩
end
end K81L
end
section
set_option Elab.async false
set_option linter.all false
/-! Few residuals: from a tree of words; from the lanes' numbers. -/
namespace K81L
open K81M
theorem nodes_nd {a b : Tri} {p : List Nat} : (Tri.nd a b).nodes p = p :: (a.nodes (0 :: p) ++ b.nodes (1 :: p)) := rfl
theorem pick_sub {c : List Nat} : ∀ {all : List (List Nat)} {m : Nat}, c ∈ pick all m → c ∈ all
  | [], _, h => by cases h
  | x :: xs, m, h => by
    have h : c ∈ cond (Nat.beq (Nat.mod m 2) 1) (x :: pick xs (Nat.div m 2)) (pick xs (Nat.div m 2)) := h
    cases e : Nat.beq (Nat.mod m 2) 1 with
    | true =>
      rw [e] at h
      rcases List.mem_cons.mp h with rfl | h
      · exact List.mem_cons_self
      · exact List.mem_cons_of_mem _ (pick_sub h)
    | false =>
      rw [e] at h
      exact List.mem_cons_of_mem _ (pick_sub h)
section
variable {nx : Nat → Nat → Nat → Nat → Bool} {fin : Nat → Nat → Bool} {sl : List Slot} {n : Nat} {qs : List Nat}
/-- a word of the tree or one with the standing of a node -/
def Okw (nx : Nat → Nat → Nat → Nat → Bool) (fin : Nat → Nat → Bool) (sl : List Slot) (n : Nat) (qs : List Nat) (all nodes : List (List Nat)) (w : List Nat) : Prop := Ex nx fin sl n w ∧ (w ∈ nodes ∨ ∃ c ∈ all, neW AB nx fin sl n qs w c = false)
theorem tree_ok (hq : ∀ s ∈ sl, s.t ∈ qs) {all : List (List Nat)} : ∀ (T : Tri) (p : List Nat), (clW AB nx fin sl n qs p = false → Ex nx fin sl n p) → badT AB nx fin sl n qs all T p = false →
    Okw nx fin sl n qs all (T.nodes p) p ∧ ∀ w ∈ T.nodes p, Ex nx fin sl n w ∧ ∀ l, l < 2 → Okw nx fin sl n qs all (T.nodes p) (l :: w) := by
  intro T
  induction T with
  | lf m =>
    intro p hx hb
    have hb : (clW AB nx fin sl n qs p || andM AB (fun c => neW AB nx fin sl n qs p c) (pick all m)) = false := hb
    obtain ⟨h1, h2⟩ := Bool.or_eq_false_iff.mp hb
    obtain ⟨c, hc, hn⟩ := andM_false h2
    exact ⟨⟨hx h1, .inr ⟨c, pick_sub hc, hn⟩⟩, fun w hw => by cases hw⟩
  | nd a b ia ib =>
    intro p hx hb
    have hb : (clW AB nx fin sl n qs p || (badT AB nx fin sl n qs all a (0 :: p) || badT AB nx fin sl n qs all b (1 :: p))) = false := hb
    obtain ⟨h1, h2⟩ := Bool.or_eq_false_iff.mp hb
    obtain ⟨h2, h3⟩ := Bool.or_eq_false_iff.mp h2
    have X := hx h1
    obtain ⟨a1, a2⟩ := ia (0 :: p) (ex_cons hq X) h2
    obtain ⟨b1, b2⟩ := ib (1 :: p) (ex_cons hq X) h3
    rw [nodes_nd]
    have upA : ∀ {w}, Okw nx fin sl n qs all (a.nodes (0 :: p)) w → Okw nx fin sl n qs all (p :: (a.nodes (0 :: p) ++ b.nodes (1 :: p))) w := fun h => ⟨h.1, h.2.imp (fun z => List.mem_cons_of_mem _ (List.mem_append_left _ z)) id⟩
    have upB : ∀ {w}, Okw nx fin sl n qs all (b.nodes (1 :: p)) w → Okw nx fin sl n qs all (p :: (a.nodes (0 :: p) ++ b.nodes (1 :: p))) w := fun h => ⟨h.1, h.2.imp (fun z => List.mem_cons_of_mem _ (List.mem_append_right _ z)) id⟩
    refine ⟨⟨X, .inl List.mem_cons_self⟩, fun w hw => ?_⟩
    rcases List.mem_cons.mp hw with rfl | hw
    · refine ⟨X, fun l hl => ?_⟩
      have e : l = 0 ∨ l = 1 := by omega
      rcases e with rfl | rfl
      · exact upA a1
      · exact upB b1
    · rcases List.mem_append.mp hw with hw | hw
      · obtain ⟨h4, h5⟩ := a2 w hw
        exact ⟨h4, fun l hl => upA (h5 l hl)⟩
      · obtain ⟨h4, h5⟩ := b2 w hw
        exact ⟨h4, fun l hl => upB (h5 l hl)⟩
open Classical in
/-- the language of an automaton by slots, over two letters -/
noncomputable def lgN {J : Type} (N : Nf J) (en : List Nat) : Lang := clip 2 fun w => decide (accK en (N.SW w))
/-- at most 60 residuals -/
def Few (m : Nat) (L : Lang) : Prop := ∃ U : List Lang, U.length ≤ 60 ∧ L ∈ U ∧ ∀ M ∈ U, ∀ l, l < m → der l M ∈ U
open Classical in
theorem few_tree (h0 : 0 ∈ qs) (hq : ∀ s ∈ sl, s.t ∈ qs) {a b : Tri} (hl : ((Tri.nd a b).nodes []).length ≤ 60) (hb : bad AB nx fin sl n qs (.nd a b) = false) (en : List Nat) : Few 2 (lgN (nfL nx fin sl) en) := by
  obtain ⟨_, key⟩ := tree_ok hq (.nd a b) [] (ex_nil hq) hb
  let res : List Nat → Lang := fun p => clip 2 fun r => decide (accK en (r.foldl (nfL nx fin sl).stp ((nfL nx fin sl).SW p.reverse)))
  refine ⟨((Tri.nd a b).nodes []).map res, by rw [List.length_map]; exact hl, List.mem_map.mpr ⟨[], by rw [nodes_nd]; exact List.mem_cons_self, rfl⟩, fun M hM l hl => ?_⟩
  obtain ⟨p, hp, rfl⟩ := List.mem_map.mp hM
  have e : der l (res p) = res (l :: p) := by
    show der l (clip 2 _) = _
    rw [clip_der _ hl]
    show clip 2 (fun r => decide (accK en ((l :: r).foldl (nfL nx fin sl).stp ((nfL nx fin sl).SW p.reverse)))) = clip 2 (fun r => decide (accK en (r.foldl (nfL nx fin sl).stp ((nfL nx fin sl).SW (l :: p).reverse))))
    rw [List.reverse_cons, Nf.SW_snoc] <;> rfl
  rw [e]
  obtain ⟨X, hc | ⟨c, hc, hn⟩⟩ := (key p hp).2 l hl
  · exact List.mem_map.mpr ⟨_, hc, rfl⟩
  · have e2 : res (l :: p) = res c := by
      show clip 2 (fun r => decide (accK en (r.foldl (nfL nx fin sl).stp ((nfL nx fin sl).SW (l :: p).reverse)))) = clip 2 (fun r => decide (accK en (r.foldl (nfL nx fin sl).stp ((nfL nx fin sl).SW c.reverse))))
      rw [same_SW h0 hq X (key c hc).1 hn]
    rw [e2]
    exact List.mem_map.mpr ⟨c, hc, rfl⟩
end
/-! ### from the numbers -/
/-- trees of at most 60 nodes -/
noncomputable def smallT (T : Tri) : Bool := Tri.rec (motive := fun _ => Bool) (fun _ => false) (fun a b _ _ => Nat.ble ((Tri.nd a b).nodes []).length 60) T
def place3 (t0 t1 t2 : Nat) : Nat → Nat
  | 0 => t0
  | 1 => t1
  | _ => t2
theorem mk_bit {f : Nat → Bool} {t0 t1 t2 : Nat} (h0 : t0 < 29) (h1 : t1 < 29) (h2 : t2 < 29) (p : Nat) : (mk p f).testBit (laneOf (t0, t1, t2)) = f (place3 t0 t1 t2 p) := by
  have c1 : ∀ c : Bool, cond c 1 0 < 2 ^ 1 := by decide
  have c29 : ∀ c : Bool, cond c 536870911 0 < 2 ^ 29 := by decide
  have b29 : ∀ (c : Bool) (r : Nat), r < 29 → (cond c 536870911 0).testBit r = c := fun c r hr => ones_bit (s := 29) hr
  have l29 : ∀ {g : Nat → Nat}, (∀ i, g i < 2 ^ 29) → tile 29 g 29 < 2 ^ 841 := fun hg => tile_lt (s := 29) hg 29
  have el : laneOf (t0, t1, t2) = 841 * t2 + (29 * t1 + t0) := by show t0 + 29 * (t1 + 29 * t2) = _; omega
  have r1 : 29 * t1 + t0 < 841 := by omega
  rw [el]
  match p with
  | 0 =>
    show (tile 841 (fun _ => tile 29 (fun _ => tile 1 (fun t => cond (f t) 1 0) 29) 29) 29).testBit _ = f t0
    have e1 : ∀ i : Nat, (fun _ : Nat => tile 1 (fun t => cond (f t) 1 0) 29) i < 2 ^ 29 := fun _ => tile_lt (s := 1) (fun t => c1 (f t)) 29
    rw [tile_bit (fun _ => l29 e1) r1 h2, tile_bit e1 h0 h1]
    have := tile_bit (s := 1) (g := fun t => cond (f t) 1 0) (fun t => c1 (f t)) (k := t0) (r := 0) (by decide) h0
    rw [Nat.one_mul, Nat.add_zero] at this
    rw [this]
    cases f t0 <;> rfl
  | 1 =>
    show (tile 841 (fun _ => tile 29 (fun t => cond (f t) 536870911 0) 29) 29).testBit _ = f t1
    have e1 : ∀ i : Nat, (fun t : Nat => cond (f t) 536870911 0) i < 2 ^ 29 := fun t => c29 (f t)
    rw [tile_bit (fun _ => l29 e1) r1 h2, tile_bit e1 h0 h1]
    exact b29 _ _ h0
  | p + 2 =>
    show (tile 841 (fun t => cond (f t) (Nat.sub (Nat.pow 2 841) 1) 0) 29).testBit _ = f t2
    rw [tile_bit (fun _ => ones_lt) r1 h2]
    exact ones_bit r1
theorem lane_lt {t0 t1 t2 : Nat} (h0 : t0 < 29) (h1 : t1 < 29) (h2 : t2 < 29) : laneOf (t0, t1, t2) < 24389 := by
  show t0 + 29 * (t1 + 29 * t2) < 24389
  omega
theorem lane_inj {t0 t1 t2 s0 s1 s2 : Nat} (h0 : t0 < 29) (h1 : t1 < 29) (g0 : s0 < 29) (g1 : s1 < 29) (e : laneOf (t0, t1, t2) = laneOf (s0, s1, s2)) : (t0, t1, t2) = (s0, s1, s2) := by
  have e : t0 + 29 * (t1 + 29 * t2) = s0 + 29 * (s1 + 29 * s2) := e
  have a : t0 = s0 := by omega
  have b : t1 = s1 := by omega
  have c : t2 = s2 := by omega
  rw [a, b, c]
theorem hard_bit {i : Nat} : ∀ {hs : List (Nat × Nat × Nat)}, (hardN hs).testBit i = true → ∃ h ∈ hs, laneOf h = i
  | [], h => by
    have h : (0 : Nat).testBit i = true := h
    rw [Nat.zero_testBit] at h
    cases h
  | x :: xs, h => by
    have h : (2 ^ laneOf x ||| hardN xs).testBit i = true := h
    rw [Nat.testBit_or, Bool.or_eq_true, Nat.testBit_two_pow] at h
    rcases h with h | h
    · exact ⟨x, List.mem_cons_self, of_decide_eq_true h⟩
    · obtain ⟨y, h1, h2⟩ := hard_bit h
      exact ⟨y, List.mem_cons_of_mem _ h1, h2⟩
/-- what the check of a table says of one lane -/
theorem few_lane {sl : List Slot} {n : Nat} {qs : List Nat} {Ts : List Tri} {hs : List (Nat × Nat × Nat)} (hq : (Nat.beq 0 0 && qs.contains 0 && sl.all fun s => qs.contains s.t) = true) (small : Ts.all smallT = true)
    (h : Nat.beq (Nat.lor (badAll (algN fullN) nxN finN sl n qs Ts) (hardN hs)) (hardN hs) = true) (hh : (hs.all fun s => Nat.blt s.1 29 && Nat.blt s.2.1 29) = true) {t0 t1 t2 : Nat} (h0 : t0 < 29) (h1 : t1 < 29) (h2 : t2 < 29) :
    (t0, t1, t2) ∈ hs ∨ ∀ en, Few 2 (lgN (nfL (fun p l a b => knx (place3 t0 t1 t2 p) l a b) (fun p a => kfin (place3 t0 t1 t2 p) a) sl) en) := by
  have hl := lane_lt h0 h1 h2
  have F : Hom (algN fullN) fun x => x.testBit (laneOf (t0, t1, t2)) := homN (by
    unfold fullN
    rw [Nat.testBit_two_pow_sub_one]
    exact decide_eq_true hl)
  have e := Nat.eq_of_beq_eq_true h
  have e2 := congrArg (fun x => x.testBit (laneOf (t0, t1, t2))) e
  have e2 : (badAll (algN fullN) nxN finN sl n qs Ts ||| hardN hs).testBit (laneOf (t0, t1, t2)) = (hardN hs).testBit (laneOf (t0, t1, t2)) := e2
  rw [Nat.testBit_or] at e2
  cases c : (hardN hs).testBit (laneOf (t0, t1, t2)) with
  | true =>
    obtain ⟨x, hx, ex⟩ := hard_bit c
    have hx2 := List.all_eq_true.mp hh x hx
    rw [Bool.and_eq_true] at hx2
    obtain ⟨s0, s1, s2⟩ := x
    have b1 : s0 < 29 := by have := hx2.1; exact Nat.blt_eq.mp this
    have b2 : s1 < 29 := by have := hx2.2; exact Nat.blt_eq.mp this
    rw [lane_inj h0 h1 b1 b2 ex.symm]
    exact .inl hx
  | false =>
    right
    rw [c, Bool.or_false] at e2
    have e3 : andM AB (fun T => bad AB (fun p l a b => (nxN p l a b).testBit (laneOf (t0, t1, t2))) (fun p a => (finN p a).testBit (laneOf (t0, t1, t2))) sl n qs T) Ts = false := by
      rw [← andM_hom F (fun T => bad_hom F T) Ts]
      exact e2
    obtain ⟨T, hT, hb⟩ := andM_false e3
    have en1 : (fun p l a b => (nxN p l a b).testBit (laneOf (t0, t1, t2))) = fun p l a b => knx (place3 t0 t1 t2 p) l a b := by
      funext p l a b
      exact mk_bit h0 h1 h2 p
    have en2 : (fun p a => (finN p a).testBit (laneOf (t0, t1, t2))) = fun p a => kfin (place3 t0 t1 t2 p) a := by
      funext p a
      exact mk_bit h0 h1 h2 p
    rw [en1, en2] at hb
    have hs := List.all_eq_true.mp small T hT
    rw [Bool.and_eq_true, Bool.and_eq_true] at hq
    intro en
    cases T with
    | lf m => cases hs
    | nd a b =>
      exact few_tree (by have := hq.1.2; simpa using this) (fun s hs => by have := List.all_eq_true.mp hq.2 s hs; simpa using this) (Nat.le_of_ble_eq_true hs) hb en
end K81L
end
section
set_option Elab.async false
set_option linter.all false
set_option maxRecDepth 100000
/-! printed by gen_lanes2.py: the trees of words, table by table -/
namespace K81L
open K81M
abbrev L (m : Nat) : Tri := .lf m
abbrev N (a b : Tri) : Tri := .nd a b
def T0 : List Tri := [(N (N (N (N (N (L 543162391) (L 811602103)) (N (L 543191447) (N (L 811807135) (L 813249791)))) (N (N (L 14692759) (N (L 14692767) (L 317207775))) (N (L 543175063) (N (L 811610527) (L 275264671))))) (N (N (N (N (L 551563679) (L 854143167)) (L 854143159)) (N (N (L 820195743) (L 854143167)) (N (L 820195735) (L 855454967)))) (N (L 543191071) (N (L 811839895) (L 813284535))))) (N (N (N (N (L 551563671) (L 854134967)) (L 1390948535)) (N (L 14692767) (N (L 551563671) (N (L 819999135) (L 1928869055))))) (N (N (L 811626647) (L 845754551)) (N (L 811626911) (N (L 811807127) (L 2423854231))))))]
def H0 : List (Nat × Nat × Nat) := []
theorem lanes0 : Nat.beq (Nat.lor (badAll (algN fullN) nxN finN [⟨0, [0, 1], 0⟩, ⟨1, [0, 1], 0⟩, ⟨2, [0, 1], 0⟩] 1 [0, 1] T0) (hardN H0)) (hardN H0) = true := by decide +kernel
theorem small0 : T0.all smallT = true := by decide +kernel
def T4 : List Tri := [(N (N (N (N (N (L 68820140055) (L 103179911351)) (N (L 68820369815) (N (L 104267874719) (L 104275222783)))) (N (N (N (N (L 69223023511) (L 104929530039)) (N (L 106548003223) (L 35673186519))) (N (L 106548003231) (L 35672662239))) (N (L 104266301847) (N (L 104266301855) (L 34464702623))))) (N (N (N (N (L 69223023519) (L 104929525951)) (L 104929525943)) (N (N (L 106818143135) (L 104392655039)) (N (L 106549576087) (L 104411537655)))) (N (N (L 104400912535) (L 104258437303)) (N (L 104268136855) (L 104275501239))))) (N (N (N (N (L 69223023511) (L 104929525943)) (N (L 106548134295) (L 36226834647))) (N (N (L 106816569751) (L 104929530039)) (N (N (L 106816569759) (L 104929530047)) (N (L 106548003231) (L 2307727663295))))) (N (N (L 104392261783) (N (L 112992026775) (N (N (L 104402223255) (L 242234261687)) (N (L 104402092447) (L 241716273335))))) (N (N (L 104392393623) (L 104392589495)) (N (L 4502305997207) (L 8830574960791))))))]
def H4 : List (Nat × Nat × Nat) := []
theorem lanes4 : Nat.beq (Nat.lor (badAll (algN fullN) nxN finN [⟨0, [0, 1], 0⟩, ⟨1, [0, 1], 0⟩, ⟨2, [1], 0⟩, ⟨2, [0], 1⟩] 1 [0, 1] T4) (hardN H4)) (hardN H4) = true := by decide +kernel
theorem small4 : T4.all smallT = true := by decide +kernel
def T6 : List Tri := [(N (N (N (N (N (L 549957173279) (L 829130113215)) (N (L 824835277215) (N (L 824863457695) (L 71197917290751)))) (N (N (N (N (L 825103712671) (L 829408514239)) (N (L 833718813087) (L 70682756620543))) (N (L 833718813087) (L 70682755051775))) (N (L 824860311967) (N (L 211939682779551) (L 70648126873759))))) (N (N (N (N (L 825103712671) (L 829408510143)) (N (L 833718813087) (L 71232550183167))) (N (N (L 833721958815) (L 71232512426175)) (N (L 212008673968543) (L 71232549658879)))) (N (N (L 825129140383) (L 73396906983615)) (N (L 211939686187423) (L 71197917569215))))) (N (N (N (N (L 550225674655) (L 829407985855)) (N (N (L 833719075231) (L 70682756092095)) (L 70683863392511))) (N (N (L 833718813087) (N (L 212008670822815) (L 71250799075583))) (N (N (L 212008670822815) (L 71250765516991)) (N (L 212008670691743) (L 71232544415935))))) (N (N (N (L 1924623859871) (L 73397980725439)) (N (N (L 216338001002655) (L 71250765512895)) (N (N (L 212008673968287) (L 73449520332991)) (N (L 212008673837471) (L 73431304478911))))) (N (N (L 211939951477151) (L 71198152163519)) (N (L 211939685925279) (L 352123138187423))))))]
def H6 : List (Nat × Nat × Nat) := []
theorem lanes6 : Nat.beq (Nat.lor (badAll (algN fullN) nxN finN [⟨0, [0, 1], 0⟩, ⟨1, [1], 0⟩, ⟨1, [0], 1⟩, ⟨2, [1], 0⟩, ⟨2, [0], 1⟩] 1 [0, 1] T6) (hardN H6)) (hardN H6) = true := by decide +kernel
theorem small6 : T6.all smallT = true := by decide +kernel
def T7 : List Tri := [(N (N (N (N (N (L 8615108639) (L 13044310207)) (N (L 8615158175) (N (L 12910879135) (L 150489819391)))) (N (N (L 58778015) (N (N (L 13212115359) (L 151056179903)) (L 142465854207))) (N (L 12910092703) (N (L 425226953119) (L 141895428255))))) (N (N (N (N (L 8648712607) (L 13080355007)) (N (L 13212115359) (L 151061162239))) (N (N (L 13212901791) (L 151056179391)) (N (L 426335068575) (L 151061293311)))) (N (L 12910125215) (N (L 425227805087) (L 150489888959))))) (N (N (N (N (L 8648679839) (L 13080223935)) (L 141928980671)) (N (N (L 13212115359) (L 151056048831)) (N (N (L 426334282143) (L 151056048831)) (N (L 426334249375) (L 151059982527))))) (N (N (N (L 30123581599) (L 184845361343)) (N (N (L 493980803231) (L 151056048319)) (L 151027738815))) (N (N (L 425260573087) (L 150519177407)) (N (L 425227739551) (L 691655698591))))))]
def H7 : List (Nat × Nat × Nat) := []
theorem lanes7 : Nat.beq (Nat.lor (badAll (algN fullN) nxN finN [⟨0, [1], 0⟩, ⟨0, [0], 1⟩, ⟨1, [1], 0⟩, ⟨1, [0], 1⟩, ⟨2, [1], 0⟩, ⟨2, [0], 1⟩] 1 [0, 1] T7) (hardN H7)) (hardN H7) = true := by decide +kernel
theorem small7 : T7.all smallT = true := by decide +kernel
def T32 : List Tri := [(N (N (N (N (N (L 543162391) (L 811602103)) (N (L 543191447) (N (L 811807135) (L 813249791)))) (N (N (L 14692759) (N (L 14692767) (L 317207775))) (N (L 543175063) (N (L 811610527) (L 275264671))))) (N (N (N (N (L 551563679) (L 854143167)) (L 854143159)) (N (N (L 820195743) (L 854143167)) (N (L 820195735) (L 855454967)))) (N (L 543191071) (N (L 811839895) (L 813284535))))) (N (N (N (N (L 551563671) (L 854134967)) (L 1390948535)) (N (L 14692767) (N (L 551563671) (N (L 819999135) (L 1928869055))))) (N (N (L 811626647) (L 845754551)) (N (L 811626911) (N (L 811807127) (L 2423854231))))))]
def H32 : List (Nat × Nat × Nat) := []
theorem lanes32 : Nat.beq (Nat.lor (badAll (algN fullN) nxN finN [⟨0, [0, 1], 0⟩, ⟨1, [0, 1], 0⟩, ⟨2, [0], 0⟩, ⟨2, [1], 1⟩] 1 [0, 1] T32) (hardN H32)) (hardN H32) = true := by decide +kernel
theorem small32 : T32.all smallT = true := by decide +kernel
def T36 : List Tri := [(N (N (N (N (N (L 543162391) (L 811602103)) (N (L 543191447) (N (L 811807135) (L 813249791)))) (N (N (L 14692759) (N (L 14692767) (L 317207775))) (N (L 543175063) (N (L 811610527) (L 275264671))))) (N (N (N (N (L 551563679) (L 854143167)) (L 854143159)) (N (N (L 820195743) (L 854143167)) (N (L 820195743) (L 855454975)))) (N (L 543191071) (N (L 811839895) (L 813284535))))) (N (N (N (N (L 551563671) (L 854134967)) (L 1390948535)) (N (L 14692767) (N (L 551563671) (N (L 819999135) (L 1928869055))))) (N (N (L 811626647) (L 845754551)) (N (L 811626911) (N (L 811807127) (L 2423854231))))))]
def H36 : List (Nat × Nat × Nat) := []
theorem lanes36 : Nat.beq (Nat.lor (badAll (algN fullN) nxN finN [⟨0, [0, 1], 0⟩, ⟨1, [0, 1], 0⟩, ⟨2, [0, 1], 1⟩] 1 [0, 1] T36) (hardN H36)) (hardN H36) = true := by decide +kernel
theorem small36 : T36.all smallT = true := by decide +kernel
def T38 : List Tri := [(N (N (N (N (N (L 34460434463) (L 52714111167)) (N (L 34460631455) (N (L 51788743071) (L 1152247243007)))) (N (N (N (N (L 34594718111) (L 52853051583)) (N (L 53934653855) (L 1118004420863))) (N (L 53934653855) (L 1118004420863))) (N (L 51787170207) (N (L 3352335319455) (L 1117870203039))))) (N (N (N (N (L 34594849183) (L 52853047487)) (L 52853047487)) (N (N (L 53936357791) (L 1152364675263)) (N (L 3352471110047) (L 1152383557887)))) (N (N (L 51787432095) (L 1152230457535)) (N (L 3352337154463) (L 1152247521471))))) (N (N (N (N (L 34594718111) (L 52853047487)) (N (L 55008526751) (L 1118558593279))) (N (N (L 55008395679) (L 1152901550271)) (N (L 3352469537183) (N (L 3352469537183) (L 1156675903679))))) (N (N (L 52852654239) (N (L 3352471109791) (N (N (L 3352471240863) (L 1221486805183)) (N (L 3352471241119) (L 1220968816831))))) (N (N (L 3352469799327) (L 1152364675263)) (N (L 3353544851871) (L 5515934015647))))))]
def H38 : List (Nat × Nat × Nat) := []
theorem lanes38 : Nat.beq (Nat.lor (badAll (algN fullN) nxN finN [⟨0, [0, 1], 0⟩, ⟨1, [1], 0⟩, ⟨1, [0], 1⟩, ⟨2, [0, 1], 1⟩] 1 [0, 1] T38) (hardN H38)) (hardN H38) = true := by decide +kernel
theorem small38 : T38.all smallT = true := by decide +kernel
def T39 : List Tri := [(N (N (N (N (N (L 8615104543) (L 13044297919)) (N (L 8648683935) (N (L 12944028063) (L 150488626431)))) (N (N (L 58749343) (N (L 13212086687) (L 142464792319))) (N (L 12943634847) (N (L 425260495263) (L 141894366367))))) (N (N (N (N (L 8648683935) (L 13079097535)) (N (L 13212086687) (L 151059510527))) (N (N (L 13212479903) (L 151054921919)) (N (L 426603082143) (L 151059576063)))) (N (N (L 12943683743) (L 184844169407)) (N (L 425227366815) (L 150488661183))))) (N (N (N (N (L 8648667551) (L 13079031999)) (L 141927919807)) (N (N (L 13346304415) (L 151054856895)) (N (N (L 426334253471) (L 151054856895)) (N (L 426604769695) (L 151058920639))))) (N (N (N (L 30257754271) (L 184844169407)) (N (N (L 493980381343) (L 151054856383)) (L 151026021567))) (N (N (L 425260528031) (L 150517985471)) (N (L 425395106207) (L 691654505631))))))]
def H39 : List (Nat × Nat × Nat) := []
theorem lanes39 : Nat.beq (Nat.lor (badAll (algN fullN) nxN finN [⟨0, [1], 0⟩, ⟨0, [0], 1⟩, ⟨1, [1], 0⟩, ⟨1, [0], 1⟩, ⟨2, [0, 1], 1⟩] 1 [0, 1] T39) (hardN H39)) (hardN H39) = true := by decide +kernel
theorem small39 : T39.all smallT = true := by decide +kernel
def T48 : List Tri := [(N (N (N (N (N (L 543162391) (L 811602103)) (N (L 543191447) (N (L 811807135) (L 813249791)))) (N (N (L 14692759) (N (L 14692767) (L 317207775))) (N (L 543175063) (N (L 811610527) (L 275264671))))) (N (N (N (N (L 551563679) (L 854143167)) (L 854143159)) (N (N (L 820195743) (L 854143167)) (N (L 820195735) (L 855454967)))) (N (L 543191071) (N (L 811839895) (L 813284535))))) (N (N (N (N (L 551563671) (L 854134967)) (L 1390948535)) (N (L 14692767) (N (L 551563671) (N (L 819999135) (L 1928869055))))) (N (N (L 811626647) (L 845754551)) (N (L 811626911) (N (L 811807127) (L 2423854231))))))]
def H48 : List (Nat × Nat × Nat) := []
theorem lanes48 : Nat.beq (Nat.lor (badAll (algN fullN) nxN finN [⟨0, [0, 1], 0⟩, ⟨1, [0], 0⟩, ⟨1, [1], 1⟩, ⟨2, [0], 0⟩, ⟨2, [1], 1⟩] 1 [0, 1] T48) (hardN H48)) (hardN H48) = true := by decide +kernel
theorem small48 : T48.all smallT = true := by decide +kernel
def T54 : List Tri := [(N (N (N (N (N (L 543162391) (L 811602103)) (N (L 543191447) (N (L 811807135) (L 813249791)))) (N (N (L 14692759) (N (L 14692767) (L 317207775))) (N (L 543175063) (N (L 811610527) (L 275264671))))) (N (N (N (N (L 551563679) (L 854143167)) (L 854143159)) (N (N (L 820195743) (L 854143167)) (N (L 820195743) (L 855454975)))) (N (L 543191071) (N (L 811839895) (L 813284535))))) (N (N (N (N (L 551563671) (L 854134967)) (L 1390948535)) (N (L 14692767) (N (L 551563671) (N (L 819999135) (L 1928869055))))) (N (N (L 811626647) (L 845754551)) (N (L 811626911) (N (L 811807127) (L 2423854231))))))]
def H54 : List (Nat × Nat × Nat) := []
theorem lanes54 : Nat.beq (Nat.lor (badAll (algN fullN) nxN finN [⟨0, [0, 1], 0⟩, ⟨1, [0, 1], 1⟩, ⟨2, [0, 1], 1⟩] 1 [0, 1] T54) (hardN H54)) (hardN H54) = true := by decide +kernel
theorem small54 : T54.all smallT = true := by decide +kernel
def T55 : List Tri := [(N (N (N (N (N (L 1086332959) (L 1690312895)) (N (L 1086382495) (N (L 1640391071) (L 3841091839)))) (N (N (N (L 62972831) (L 634545343)) (N (L 1639997855) (L 2781899007))) (N (L 1639997855) (N (L 8065671583) (L 2765121695))))) (N (N (N (N (L 1136714655) (L 1708286143)) (L 1708286143)) (N (N (L 1673978783) (L 3855769791)) (N (L 8082842015) (L 3858393343)))) (N (L 1640030367) (N (L 8066130335) (L 3841161407))))) (N (N (N (N (L 1136714655) (L 1708286143)) (L 2781896895)) (N (L 1740693919) (N (L 8082448799) (N (L 8082448799) (L 3857737919))))) (N (N (L 1740693663) (L 3838992575)) (N (N (L 8082514847) (L 3855769791)) (N (L 8149950879) (L 11357284511))))))]
def H55 : List (Nat × Nat × Nat) := []
theorem lanes55 : Nat.beq (Nat.lor (badAll (algN fullN) nxN finN [⟨0, [1], 0⟩, ⟨0, [0], 1⟩, ⟨1, [0, 1], 1⟩, ⟨2, [0, 1], 1⟩] 1 [0, 1] T55) (hardN H55)) (hardN H55) = true := by decide +kernel
theorem small55 : T55.all smallT = true := by decide +kernel
def T56 : List Tri := [(N (N (N (N (N (L 543162391) (L 811602103)) (N (L 543191447) (N (L 811807135) (L 813249791)))) (N (N (L 14692759) (N (L 14692767) (L 317207775))) (N (L 543175063) (N (L 811610527) (L 275264671))))) (N (N (N (N (L 551563679) (L 854143167)) (L 854143159)) (N (N (L 820195743) (L 854143167)) (N (L 820195735) (L 855454967)))) (N (L 543191071) (N (L 811839895) (L 813284535))))) (N (N (N (N (L 551563671) (L 854134967)) (L 1390948535)) (N (L 14692767) (N (L 551563671) (N (L 819999135) (L 1928869055))))) (N (N (L 811626647) (L 845754551)) (N (L 811626911) (N (L 811807127) (L 2423854231))))))]
def H56 : List (Nat × Nat × Nat) := []
theorem lanes56 : Nat.beq (Nat.lor (badAll (algN fullN) nxN finN [⟨0, [0], 0⟩, ⟨0, [1], 1⟩, ⟨1, [0], 0⟩, ⟨1, [1], 1⟩, ⟨2, [0], 0⟩, ⟨2, [1], 1⟩] 1 [0, 1] T56) (hardN H56)) (hardN H56) = true := by decide +kernel
theorem small56 : T56.all smallT = true := by decide +kernel
def T63 : List Tri := [(N (N (N (N (N (L 543162390) (L 811602102)) (N (L 543191446) (N (L 811807134) (L 813249790)))) (N (N (L 14692758) (N (L 14692766) (L 317207774))) (N (L 543175062) (N (L 811610526) (L 275264670))))) (N (N (N (N (L 551563678) (L 854143166)) (L 854143158)) (N (N (L 820195742) (L 854143166)) (N (L 820195742) (L 855454974)))) (N (L 543191070) (N (L 811839894) (L 813284534))))) (N (N (N (N (L 551563670) (L 854134966)) (L 1390948534)) (N (L 14692766) (N (L 551563670) (N (L 819999134) (L 1928869054))))) (N (N (L 811626646) (L 845754550)) (N (L 811626910) (N (L 811807126) (L 2423854230))))))]
def H63 : List (Nat × Nat × Nat) := []
theorem lanes63 : Nat.beq (Nat.lor (badAll (algN fullN) nxN finN [⟨0, [0, 1], 1⟩, ⟨1, [0, 1], 1⟩, ⟨2, [0, 1], 1⟩] 1 [0, 1] T63) (hardN H63)) (hardN H63) = true := by decide +kernel
theorem small63 : T63.all smallT = true := by decide +kernel
end K81L
end
section
set_option Elab.async false
set_option linter.all false
set_option maxRecDepth 100000
/-! printed by gen_lanes2.py: the trees of words, table by table -/
namespace K81L
open K81M
def T34 : List Tri := [(N (N (N (N (L 1126020165943311) (L 1697698029813791)) (N (N (N (N (L 1689107558547583) (L 1698591387535903)) (N (L 1716459533484159) (L 37727113595701791))) (N (N (L 4002481638068351) (L 328350035572277791)) (L 37727113595439647))) (N (N (N (L 3967297265980479) (L 48986112597019167)) (L 48986112596754975)) (L 327083329457276959)))) (N (N (N (N (L 1689107558547583) (L 1698591387535903)) (N (N (N (N (L 3967161975160959) (L 39979188220185119)) (L 39978921932210719)) (L 48986112597017119)) (L 37727122185636383))) (N (N (N (N (L 3967297291145279) (L 39979188287293983)) (L 48986112597017119)) (L 328350035572277791)) (N (N (N (L 130068086840868991) (L 39979188287293983)) (L 48986112597017119)) (L 328209298150771231)))) (N (N (N (N (L 3967299413463103) (L 337357509704925727)) (L 48986121186953759)) (L 48986043877278239)) (N (L 112053550892367935) (L 328209229364250655))))) (N (N (N (N (L 1126158678741119) (N (L 1715360021729343) (L 325957498337019935))) (N (N (N (N (L 3970458362040383) (L 40119925775649311)) (L 38993750923788831)) (L 48000950178529823)) (L 327083398243862559))) (N (N (N (N (L 4002481638064191) (L 40119925708540447)) (L 49126850085372447)) (N (N (L 112088735256133695) (L 328350035572277791)) (L 328209298150771231))) (L 37727113528264735))) (N (N (N (N (L 3967297265979423) (L 337357509704925215)) (L 48986387474663455)) (N (N (L 112055750049779775) (L 328350035572015135)) (L 39978853279582239))) (N (N (N (L 112335163299582015) (L 328350035572015135)) (L 328350035572015135)) (N (N (L 832629628710539327) (L 337357166107279391)) (L 327083329457274911)))))),
  (N (N (N (N (N (L 9007199255789598) (N (L 9007259385858140) (L 4505826636402288))) (N (N (L 9007259385858140) (N (L 13517456082995292) (L 4576195389001296))) (N (L 13513058170701916) (L 4505826644791128)))) (N (N (N (L 60131117148) (N (L 13513023676745820) (N (L 13513023810967644) (L 4576195389001296)))) (N (L 13517456082995292) (L 4576266258067024))) (N (L 13513023810963548) (N (L 13513058170701916) (L 580966645513915480))))) (N (N (N (L 9007259385856092) (N (L 13513161115699293) (N (L 13513023810963550) (L 4576470266875474)))) (N (L 13517456082995420) (N (L 13517421857474653) (N (L 13517421857474654) (L 4576195405745746))))) (N (N (L 13513023810967644) (N (L 13517559296428124) (N (L 13517421857474654) (N (L 13517421857478748) (L 22590594166885968))))) (N (L 13513023810963548) (L 22590598185157714))))) (N (N (N (N (L 9007263680823388) (L 4505893149606993)) (N (N (L 13513023676745823) (N (L 13517456082995294) (L 4576266258026064))) (N (L 13513062465669215) (N (L 13513058170701918) (L 4576816013839952))))) (N (N (L 13517421857478748) (N (L 13517456217213148) (N (L 13517421857474654) (N (L 13517421857478748) (L 4602583668067920))))) (N (N (L 13517460377962591) (N (L 13517421857474654) (N (L 13658198000535644) (N (L 13517421857474655) (L 22872622925942361))))) (N (L 13517421857474655) (L 22590598185028697))))) (N (N (L 13513023676743710) (N (L 13517559296428124) (N (N (L 13517421857474654) (L 22520227570126418)) (N (L 13517421857474654) (N (L 13517559296428124) (L 40604992399543376)))))) (N (L 13513028105930782) (L 581036949764374547))))),
  (N (N (N (N (N (N (L 63) (L 67111160)) (L 83888376)) (N (L 100667452) (L 281475043951736))) (N (N (L 67121212) (N (L 140737555857468) (L 281475043951864))) (N (L 562950020923452) (L 72057594124109432)))) (N (N (N (L 201330748) (N (L 101060668) (N (L 562950020931644) (L 72057594107331704)))) (N (L 140737555857468) (L 281475043968248))) (N (N (N (L 140737555857468) (L 281475043950840)) (N (L 140737555861564) (L 281475043951736))) (N (N (L 144115188147552316) (L 72057594108313832)) (N (L 144115188147556408) (L 72057594107265064)))))) (N (N (N (N (L 100667452) (N (N (N (L 140737555857468) (N (L 562950557798460) (N (L 144115189221294140) (L 72057602697266296)))) (N (L 140737555857468) (L 281477191435512))) (N (L 144255925635907640) (N (L 144115188147552316) (L 72057594375702648))))) (N (N (L 67510332) (N (L 140737555861820) (N (L 563087459881020) (N (L 144115188147560508) (L 72057868985240696))))) (N (N (L 1125901048610876) (N (L 140737555861564) (N (L 567348067434556) (N (L 144115189221294140) (L 72066390200290552))))) (L 360360538026475640)))) (N (N (L 562950020923454) (L 72057663095244920)) (L 281543815856156))) (N (N (N (L 703687508889658) (N (L 562950020927548) (L 72059793130554488))) (N (L 140737560055864) (N (N (L 1125899974877246) (L 4574037158332520)) (N (L 144115188147560508) (L 76561193768192040))))) (N (N (L 145241088050073644) (L 76561193768192040)) (N (L 144678138130202664) (N (L 144678138134396968) (L 937030197553659937))))))),
  (N (N (N (N (N (N (L 61) (L 2281705664)) (L 34493956288)) (N (L 9007200596926476) (L 4503634070995136))) (N (N (L 805306372) (N (L 550024249612) (N (L 70369584095488) (L 4538784016763392)))) (N (L 9007200060055556) (L 4503874656273024)))) (N (N (N (N (L 1879064588) (N (L 551401038092) (L 4538820523984960))) (N (L 9007749849423876) (N (L 9077568837804034) (L 4538818443608128)))) (N (N (L 551401046028) (L 35186520101056)) (N (L 70919339909376) (N (L 70919339925504) (N (L 70370657837068) (L 4538818378727424)))))) (N (N (L 9007199825182724) (L 18014673387917824)) (N (L 9007200093609988) (L 4503874591264896))))) (N (N (N (N (L 1879064588) (N (N (L 1650879102980) (N (L 70370657828876) (L 4538820523982976))) (N (L 70370657837060) (L 4538829113917952)))) (N (L 550561128452) (N (L 9077568837787650) (N (L 9077569911529476) (L 4538818378072064))))) (N (N (N (L 1650879102988) (N (L 70919339901188) (L 4538887095977984))) (N (L 70924171747584) (N (L 70919339909120) (N (L 70919339909124) (L 4543182065369152))))) (N (N (L 70369315667972) (N (L 70919339909376) (N (L 70919339901184) (N (L 2322169397788676) (L 4679830744858624))))) (N (N (L 70370389393412) (L 35493612359680)) (L 4539058894667776))))) (N (N (L 9007199791628292) (N (N (L 36028797556899842) (L 35459250520128)) (N (N (L 70369315667972) (L 18049857760006656)) (N (L 2322169397796868) (L 22553457406247040))))) (L 4503874639495169)))),
  (N (N (N (N (L 14) (N (L 8590983304) (N (L 9345925398536) (L 18018934037020704)))) (N (N (N (N (N (L 34362884360) (L 412329447440)) (L 137480904720)) (N (L 549765251200) (L 137497681920))) (N (L 549765251080) (L 137497681920))) (N (N (N (L 9380218028040) (L 18014535990403088)) (N (L 9345858289664) (L 18014536007180288))) (N (N (L 26938044596232) (L 18014535957037072)) (L 18018934020268032))))) (N (N (N (L 51542753544) (N (L 549765251200) (L 137497681920))) (N (L 9345858289672) (N (L 9345858289664) (L 18018934020268032)))) (N (N (L 26439828111364) (N (L 2260604506079360) (L 18018796614721536))) (N (L 9354515316868) (N (N (N (L 28037555945480) (L 162129792752164928)) (L 18296011067756544)) (L 18018934037020672)))))) (N (N (N (N (L 34362884484) (N (L 9345858289664) (L 18018934053797888))) (N (L 9354448224384) (L 18018942610071552))) (N (N (N (N (L 9382365495306) (L 18296010967097424)) (L 18014535961563200)) (L 162129724033335360)) (L 150634242048))) (N (N (N (N (N (L 26422639853578) (N (L 144686934156902536) (L 162133984682188832))) (N (N (L 26938044334084) (L 18014535956971520)) (L 162133984682188800))) (L 162129655347290176)) (N (N (N (N (L 72084016679878790) (L 18014604676837440)) (L 18014608971808768)) (L 18014673395781697)) (L 18018805179490304))) (N (N (N (L 4530022269353994) (L 18014604676304960)) (L 18014544547418112)) (N (L 9354447175682) (N (L 9354447437827) (L 306249314441773057))))))),
  (N (N (N (N (N (N (L 268435496) (N (L 268435496) (L 4563550304))) (N (N (L 268435512) (N (L 268435496) (L 4563550368))) (N (L 268435512) (L 4563552800)))) (N (N (L 68987912232) (N (L 268435512) (L 4563552352))) (N (L 9007268242653192) (N (L 268435512) (N (L 268439592) (L 137439101056)))))) (N (N (L 4398046511132) (N (L 9007268376870920) (L 144115368464646144))) (N (L 4398046511132) (N (N (L 4398046511128) (N (L 268439592) (L 4563550368))) (N (N (L 4398046511132) (L 4508001977892880)) (L 1179648)))))) (N (N (N (N (L 68987912232) (N (L 272891944) (N (L 268435516) (L 13154009152)))) (L 4630642816)) (N (L 268435516) (N (L 9007199657394216) (N (L 272629790) (L 6713116672))))) (N (N (L 268435516) (L 4503604258013216)) (N (L 268439580) (N (N (L 68987912214) (L 73282881536)) (L 144115360008765440)))))) (N (N (N (L 268435466) (L 1104075161600)) (N (L 69122129930) (N (N (L 4467034423317) (L 4512469070381057)) (N (N (L 68987912234) (L 1172794638464)) (N (L 9007268376870914) (L 144134017212481536)))))) (N (N (N (L 268435500) (L 4630642848)) (N (N (L 4467034423313) (N (L 268435498) (N (L 9009398546432040) (N (L 4398314946617) (L 18014403073017889))))) (N (N (L 4467034423314) (L 4504772421877760)) (N (L 4467034423314) (L 4522428763996160))))) (L 562949953421313)))),
  (N (N (N (N (N (L 24) (L 288)) (N (N (L 1073774664) (L 1048864)) (N (L 562951027163208) (L 4503599660925216)))) (N (N (N (L 1073741896) (L 2147483904)) (N (L 4399120253000) (L 4194560))) (N (L 562949953422348) (L 4503599627372800)))) (N (N (N (N (L 1073741896) (L 281474976711072)) (N (L 16968) (N (L 9570149745034248) (N (L 9007200328483848) (L 4503599661056256))))) (N (N (L 562951027163208) (L 4503599660925216)) (L 281474976842112))) (N (N (N (L 4398048608264) (L 4194688)) (L 2199024312576)) (N (L 9007199254742028) (N (L 9007199254757888) (L 4512395758403584)))))) (N (N (N (N (L 1073742924) (L 281474976850080)) (N (N (L 536871940) (N (L 4399120253448) (N (L 9570149216551432) (L 4503616841322496)))) (N (L 9570149745034244) (N (N (L 9007200328483852) (N (L 9007200328483336) (L 4503599661187360))) (N (N (L 9007199254742020) (L 4503874538964992)) (L 22518032496594944)))))) (N (N (L 562949953422348) (L 4503599660935424)) (N (N (L 1125900460524548) (L 2199091412993)) (N (N (L 9007200328515596) (L 4503599661981952)) (N (L 9007199254774272) (L 22526794263429120)))))) (N (N (N (L 2097160) (L 281474976711040)) (N (L 2113536) (L 316659352993920))) (N (N (L 9007199254742020) (L 4503599728173056)) (N (L 9007199523176448) (L 22799473113563136))))))]
def H34 : List (Nat × Nat × Nat) := [(0, 3, 26), (0, 11, 26)]
theorem lanes34 : Nat.beq (Nat.lor (badAll (algN fullN) nxN finN [⟨0, [0, 1], 0⟩, ⟨1, [1], 0⟩, ⟨1, [0], 1⟩, ⟨2, [0], 0⟩, ⟨2, [1], 1⟩] 1 [0, 1] T34) (hardN H34)) (hardN H34) = true := by decide +kernel
theorem small34 : T34.all smallT = true := by decide +kernel
def T35 : List Tri := [(N (N (N (L 25769811975) (N (N (N (N (L 563010083020831) (L 37722380474574095)) (N (L 37731452514787359) (L 37722380474573839))) (N (N (L 12978696994482207) (L 336085855787868431)) (L 37722105596405007))) (N (N (N (L 12952308715414047) (L 47855479636157711)) (L 47855479635894543)) (L 336085546545734671)))) (N (N (N (N (L 563010083020831) (N (L 37730902767362079) (L 37722380541681679))) (N (N (N (N (L 12961106956443679) (L 47855479636157711)) (L 47855479636156687)) (L 47855479636156687)) (L 37722380541682703))) (N (N (N (N (L 12961104833601567) (L 47855479703265295)) (L 47855479636156431)) (L 47996217124511759)) (N (N (N (L 139061894383198239) (L 47855479703265295)) (L 47855479636156431)) (L 336085580976807951)))) (N (N (N (N (L 3945111608156175) (L 47855479636156431)) (L 47855479636287503)) (L 47855170398249231)) (L 37722105596370959)))) (N (N (N (N (L 128849043519) (N (L 37730902758940703) (L 37722380474277903))) (N (N (N (N (L 12980346261921823) (L 48066585935798287)) (L 48066585868689423)) (L 47996217124249871)) (L 47855479702970383))) (N (N (N (N (L 3971497739739167) (L 48066585868690703)) (N (L 121047495865327647) (L 47855479636157455))) (N (N (L 121065088051372063) (L 336085855787868431)) (L 47855479635894287))) (L 37722105592177679))) (N (N (N (N (L 3945108386930703) (L 47855479635894287)) (L 47855617074847759)) (N (N (L 121048595511173151) (L 336085855787606031)) (L 47855170465357839))) (N (N (N (L 121329039561515039) (L 47855479635894287)) (L 47995942246342671)) (N (N (L 697508248168751135) (L 336085821427867663)) (L 336085546545733647)))))),
  (N (N (N (N (N (L 36028882920407070) (N (L 54043324381138012) (L 54333634256637560))) (N (N (L 54043315791203420) (N (L 54052120474160220) (L 54333634256670296))) (N (L 54043316059638876) (L 54333625666703192)))) (N (N (N (L 18014518772239452) (N (L 54052111884225630) (N (L 54052112152665180) (L 18304824352804440)))) (N (L 54052120474160220) (L 18304832942747224))) (N (N (L 54052111884225628) (L 54052146395024472)) (N (L 54052112152661084) (L 18023349376060508))))) (N (N (N (L 54043315791203420) (N (L 54052395352067165) (N (L 54052112152661084) (L 54334175422516826)))) (N (L 54052111884225756) (N (L 54052112152661085) (N (L 54052112152661084) (L 54333625700257374))))) (N (N (L 54043316193860700) (N (L 54052395620502620) (N (L 54052112152661084) (N (L 54052112152665180) (L 54333626203573852))))) (N (L 54052077793053788) (L 54043363186902106))))) (N (N (N (N (L 36028925871128604) (L 54052146394956889)) (N (N (L 54052111884225628) (N (L 54052120474160220) (L 18304832946900568))) (N (N (L 54052120474160220) (L 54052146395024473)) (N (L 54052387030568030) (L 18305932454333532))))) (N (N (L 54069704338709596) (N (L 54069704338705628) (N (L 54069704338705500) (N (L 54069704338709596) (L 54439178782968924))))) (N (N (L 54052120474160222) (N (L 54052120742595678) (N (L 54615070696016988) (N (L 54052112152661082) (L 55460633675107420))))) (N (L 54071903361961054) (L 54333634256637018))))) (N (N (L 54052043164748894) (N (L 54069979216612444) (N (N (L 54052112152661086) (L 126109749022887006)) (N (L 54069704338705502) (L 126391228294564954))))) (L 18014424415077387)))),
  (N (N (N (N (N (N (L 67108925) (L 1100132393209)) (N (L 2199123927228) (L 4503604576920824))) (N (N (L 2199258144957) (N (L 9009411263570110) (L 1689954321442040))) (N (L 9009412874182845) (N (L 9009412874182846) (N (L 9009412874183100) (L 39309288700)))))) (N (N (N (L 2199123927229) (L 562954902708473)) (N (L 9009411263570108) (N (L 9009411263570108) (L 1688889169683704)))) (N (L 9009398378700988) (N (N (L 9009406968602814) (N (L 9009412874182844) (L 1688889169552636))) (N (N (L 27023805612335292) (L 562954904871160)) (L 4504738448810232)))))) (N (N (N (N (L 2199123927228) (L 562955171143928)) (N (L 9009411263570108) (L 1688854809814264))) (N (N (L 9009412874182844) (L 562954902708472)) (N (L 9009412874182844) (L 1688891317036280)))) (N (N (N (L 2212008829116) (L 562989262446840)) (L 562954902708472)) (N (N (L 9009412874182844) (N (L 9009412874182844) (L 1688889169551608))) (N (N (L 9009412874182844) (L 563092341662456)) (L 39309025504)))))) (N (N (N (N (N (L 15393263452221) (N (L 9009411264618686) (N (L 9009411263570108) (N (L 9009411263570109) (N (L 9009411264618686) (L 1760357425358072)))))) (L 562954902708472)) (L 564054414336152)) (N (L 9009411263570078) (N (L 9009479983047100) (N (L 9009961019383995) (L 1688854809813241))))) (N (N (N (L 27023797022367932) (N (L 9009411263570108) (L 1688854809813240))) (N (L 9009481593659836) (L 6192763674829052))) (N (L 27023805478084766) (N (L 9009408579215548) (N (L 9009408579215549) (L 1013309955417047265))))))),
  (N (N (N (L 3) (N (N (N (L 12884934656) (N (L 81604542720) (L 18017164469600256))) (N (N (L 36028874328410112) (L 576461336419117184)) (N (L 36029973840037888) (L 576461336420034688)))) (N (N (L 36033203655444480) (N (L 38280665552160768) (L 576461336420034560))) (N (L 36028801313933328) (L 576462951326706688))))) (N (N (N (L 12884934688) (L 51573293184)) (N (N (N (L 36028874328672256) (L 576461319239247872)) (L 576461336419117056)) (N (L 36029905120823296) (L 576461302060427264)))) (N (N (N (L 21998826717184) (L 578149619377242112)) (N (L 2251868533194768) (L 577026485396701696))) (N (L 36028801318158336) (N (N (N (N (N (L 36033203928072192) (L 577727406912176128)) (L 577586703750014976)) (L 577586669423820800)) (L 577727424075137152)) (L 576460754486706176)))))) (N (N (N (L 12884967426) (N (L 36028878623377408) (L 576463518262373376))) (N (N (N (N (L 215016833026) (L 576602091087339528)) (L 576461353599002624)) (L 576461336418983944)) (N (N (L 36029973840037890) (L 576461353598853128)) (L 576461340781060096)))) (N (N (N (N (N (L 13198434500610) (N (L 578994031388819472) (L 577026451035931648))) (N (N (L 38280674142095360) (L 576461336419117056)) (L 576461336421072904))) (N (L 38280601127651344) (L 576463501082520576))) (N (N (N (N (L 114841867807391746) (L 576461353598984328)) (L 576461353599002624)) (L 576461336419115016)) (L 577026489690619912))) (N (N (N (N (N (L 108086403941793794) (L 576463002866286728)) (L 576460803843057664)) (L 576463002866417672)) (L 576460790958129280)) (N (L 36033199360444418) (L 576462953474172928)))))),
  (N (N (N (N (N (N (L 56) (N (L 1074006056) (L 18253629664))) (N (N (L 1074006072) (N (L 1074006056) (L 18253629600))) (N (L 1074006072) (L 18253630112)))) (N (N (L 275951912968) (N (L 1074006072) (L 18253629600))) (N (L 275951912968) (N (L 1074006072) (N (L 1074010120) (L 1117765257216)))))) (N (N (L 1074006028) (N (L 275951912968) (L 18253793280))) (N (N (L 1074006056) (N (L 1074006056) (L 18254678176))) (N (N (L 1074006040) (N (L 1074010152) (L 18253629600))) (N (N (L 1074006044) (L 18291886096)) (L 18263050240)))))) (N (N (N (N (L 275951912968) (N (L 1090783240) (N (L 1074006044) (L 52613892096)))) (L 18522048512)) (N (L 1074006044) (N (L 1610876968) (N (L 1090783242) (L 26843564032))))) (N (N (L 1074006060) (N (L 1610876968) (L 18790500512))) (N (L 275951917060) (N (N (L 275951912970) (L 842887342080)) (L 1255741065216)))))) (N (N (N (N (L 70370891661324) (L 18522048512)) (L 8814346766336)) (N (L 275951912966) (L 150651346618368))) (N (N (N (N (L 2251799813685288) (L 18253744288)) (L 18522179744)) (N (L 17593260054532) (L 160546951268352))) (N (N (L 70368744177668) (L 140756010403840)) (N (L 17593260050432) (N (L 580543213471745) (L 72066408384563201))))))),
  (N (N (N (L 4) (L 8)) (N (N (N (L 32) (L 64)) (N (L 32) (L 64))) (N (L 4) (L 8)))) (N (N (N (N (L 2048) (L 4096)) (N (N (L 32) (L 64)) (N (L 2048) (L 4096)))) (N (N (N (L 131072) (L 262144)) (N (N (L 32) (L 64)) (N (L 131072) (L 262144)))) (N (N (L 2048) (L 4096)) (L 32768)))) (L 1)))]
def H35 : List (Nat × Nat × Nat) := [(0, 3, 26), (3, 0, 26), (3, 3, 26), (0, 11, 26), (11, 0, 26), (11, 11, 26), (11, 27, 26), (27, 11, 26)]
theorem lanes35 : Nat.beq (Nat.lor (badAll (algN fullN) nxN finN [⟨0, [1], 0⟩, ⟨0, [0], 1⟩, ⟨1, [1], 0⟩, ⟨1, [0], 1⟩, ⟨2, [0], 0⟩, ⟨2, [1], 1⟩] 1 [0, 1] T35) (hardN H35)) (hardN H35) = true := by decide +kernel
theorem small35 : T35.all smallT = true := by decide +kernel
def T49 : List Tri := [(N (N (N (N (N (L 9007229320822815) (N (L 13511928460348447) (L 13582299427573375))) (N (N (L 13511928460348447) (N (L 13514127693319199) (L 301812675596095071))) (N (L 13511928670063647) (L 301812675579285343)))) (N (N (N (L 4504729205607455) (N (L 13514127693319199) (N (L 878205256148458527) (L 292805785581096543)))) (N (L 13514127693319199) (L 301812675596103263))) (N (L 13511928670063647) (N (L 878205256148454431) (L 292735107580496991))))) (N (N (N (L 13511928460348447) (N (L 13514196412795935) (N (L 878205256148454431) (L 301812847396851295)))) (N (L 13514127693319327) (N (L 878205256148454431) (N (L 878205256148454431) (L 301812675596062303))))) (N (N (L 13511928670067743) (N (L 878205324867931167) (N (L 878205256148454431) (N (L 878205256148458527) (L 301812675864497759))))) (N (L 878205256148454431) (L 301742306835235935))))) (N (N (N (L 288230406352538655) (N (N (L 13514127693319199) (N (L 878205324867931167) (L 301812709957930591))) (N (L 878205324867931167) (N (L 878205324867931167) (L 292805785579097695))))) (N (N (L 13514127693323295) (N (L 878205324867931295) (N (N (L 878205256148458527) (L 319831504349596767)) (N (L 878205324867935263) (L 301825904095366751))))) (N (N (L 878205256148454431) (N (L 878205324867931167) (N (L 878346062356286495) (N (L 878205324867931167) (L 302094459810418271))))) (N (L 878205256148454431) (L 301812675579284575))))) (N (N (L 13511928535845919) (N (L 878205324867931167) (N (N (L 878205256148454431) (L 319827106571521119)) (N (L 878205256148454431) (L 319827074105543775))))) (N (N (L 878205256148458527) (L 319831470256196703)) (L 292805476324541471))))),
  (N (N (N (N (L 15) (L 17179967516)) (N (N (N (N (N (L 2252040331952252) (L 11831364672390172)) (L 12957264579236892)) (N (L 84470224551780478) (L 12957264579236894))) (N (N (L 84504275044245628) (L 336653487796487196)) (L 12957195859760156))) (N (N (N (L 84469125031766142) (L 48986061598200860)) (L 48985992878720029)) (L 337207590108824604)))) (N (N (N (N (L 3377940238926076) (L 11831364672390684)) (N (N (N (N (L 84469094968041596) (L 48423111644779548)) (L 48423111645299740)) (L 48423111644775452)) (L 12957264579236892))) (N (N (N (N (L 84469090730877052) (L 48986061732414492)) (L 48423111644775452)) (L 48563849133130780)) (N (N (N (L 102483489206673532) (L 48986061732414492)) (L 48423111644775452)) (L 336653419077010460)))) (N (N (N (N (L 7943085673906268) (L 48423111644775452)) (L 48423111644778524)) (L 48423042925302812)) (L 37163511280861204)))) (N (N (N (N (N (L 2252040331952204) (L 11831364672390173)) (L 48986061598196764)) (N (N (N (N (L 84472423566778492) (L 48986061732414492)) (L 48986061598196764)) (L 48986061598196764)) (L 48986061732414492))) (N (N (N (N (L 3439481751437406) (L 48423111644779548)) (L 48423111644775453)) (N (N (L 84504275044245628) (L 336653487796487196)) (L 48423111636386844))) (L 37727010990100510))) (N (N (N (N (L 7934316424265804) (L 48986061598196764)) (L 48986061598199836)) (N (N (L 84471289972097148) (L 337216437749908508)) (L 48985993012875292))) (N (N (N (L 84741802841702492) (L 48986061598196764)) (L 48563780405199900)) (N (N (L 660921080176812124) (L 336653419076944924)) (L 337207590117180432)))))),
  (N (N (N (N (N (L 30) (L 1073750192)) (N (L 16412) (N (L 6291484) (L 549892129264)))) (N (L 2147500060) (N (N (L 281474983018524) (N (L 6307868) (L 1099513856432))) (N (L 2153792028) (N (L 140737494647324) (L 576460753379264944)))))) (N (N (N (L 16412) (L 549757976752)) (N (L 6307868) (N (N (L 6340636) (L 10551472)) (N (L 6340636) (N (L 6307868) (L 1099513856432)))))) (N (N (L 6340636) (N (L 6570012) (N (L 6307868) (N (L 6340636) (N (L 6570012) (L 1099530633648)))))) (N (N (L 6307868) (L 10551480)) (N (L 6307856) (L 550428999712)))))) (N (N (N (L 2147500046) (N (L 6308380) (N (N (L 6307868) (N (L 6308380) (L 1116693725616))) (N (L 34366046744) (N (L 34366046744) (L 1116693727664)))))) (N (L 4301275148) (N (N (L 281474983051294) (N (L 6570012) (N (L 2233389302296) (N (L 281509342757400) (L 5514740236720))))) (N (L 4301307924) (L 1652088111136))))) (N (N (N (L 422212465082398) (N (L 6307868) (L 1116693725680))) (N (N (L 281474983051294) (N (L 6307868) (N (L 2251834179731992) (N (L 281509342757400) (L 4504716321096112))))) (N (N (L 281474983051294) (L 1125908507328696)) (N (L 281479278018588) (N (L 2251804383395860) (L 36030449107075104)))))) (N (L 140739635838978) (L 70369817919489))))),
  (N (N (N (N (N (N (L 4294967348) (N (L 2251806257715232) (L 38281219620341984))) (N (N (L 2304580668360752) (N (L 74415028573833248) (L 182466226688755872))) (N (L 74380937270921276) (L 146440180038503072)))) (N (N (N (L 2304589258295344) (N (L 74398527309486112) (N (L 362628903461201960) (L 147002595809626272)))) (N (L 74415030721316912) (L 182466364127725728))) (N (L 74310566379259948) (N (L 362611313422633008) (L 146440174132922528))))) (N (N (L 2304580668360756) (N (L 6862125084969256) (N (L 74398527309482016) (N (L 362611311275149364) (L 146439628678367392))))) (N (N (L 74398527309490220) (N (L 74380945860856096) (N (L 74398527343036452) (N (L 362611313422641192) (L 146440315933952160))))) (N (L 362611313422633000) (L 146440313199265952))))) (N (N (N (N (L 290500871959611436) (L 146439645851814112)) (N (L 74468898201143328) (N (L 362628903461193770) (L 147284071318948000)))) (N (L 74415030721321012) (N (L 74398529456965668) (N (L 362611313422632994) (L 146439766111029408))))) (N (N (L 74398527309482044) (L 146439629747783840)) (N (L 362611313456187436) (L 146440175206664352))))) (N (N (N (N (L 288288654562951222) (L 146439629745686689)) (N (N (L 74398527309482037) (N (L 74433713829054506) (L 147007681046644896))) (N (L 362668485879793713) (N (L 362769643097032754) (L 147007114110961824))))) (N (N (L 367167687460128822) (L 146444027794294944)) (N (L 78915323223869472) (N (L 367132503088039971) (L 191480019770542241))))) (N (N (L 74433711679995926) (L 146444023513483280)) (N (N (L 362633301506129974) (L 146444573252520097)) (N (L 367123709141450786) (L 767949498373767200)))))),
  (N (N (N (N (L 15) (L 1090521112)) (N (N (N (N (L 15032393770) (L 2234473709576)) (N (L 567418917363754) (L 36310273086324744))) (N (N (L 13194190004232) (L 72567922753544)) (L 36030996059127816))) (L 281476067229704))) (N (N (N (N (N (L 12296) (L 285409288)) (L 34376712200)) (N (L 562950003896328) (L 36028797304307720))) (N (N (N (N (L 51257352) (N (L 4398097772552) (L 2199316987912))) (L 151126024)) (N (L 4398634119176) (L 2199316987912))) (N (L 51257352) (L 293732360)))) (N (N (N (L 50476040) (L 419561480)) (N (L 4398096987144) (L 2199308599304))) (N (N (L 654716936) (L 2199178575880)) (L 285229056))))) (N (N (N (N (L 6442463308) (N (L 567348016853000) (L 36030996059127816))) (N (N (N (N (L 1134906503733260) (L 18052881435461640)) (N (L 70917431308) (L 281475270443020))) (N (L 567416769885194) (L 2200382341128))) (L 281475270443020))) (N (N (N (N (L 13194190004234) (L 107753230172168)) (N (L 4398096982026) (L 2200382341128))) (N (N (L 72070788227932168) (L 72567922753544)) (L 36030996327563272))) (L 36030997132869640))) (N (N (N (N (L 3940656149966857) (N (L 72625010807812106) (L 2200382341128))) (N (L 567350197891080) (L 36310272281018376))) (N (L 567416770146316) (L 2199316987916))) (N (N (N (L 140739669405705) (L 4787308138201097)) (L 72567918561288)) (N (L 562956966699020) (N (L 2718310409) (L 576742227565346817))))))),
  (N (N (N (N (N (L 274877906972) (N (L 274886311952) (L 550830604368))) (N (N (N (N (L 4503874530492560) (L 18014948534002768)) (L 2252349839253584)) (L 1649536147536)) (N (N (N (L 4503875321348112) (L 18014948534002768)) (L 18014948534001744)) (L 36029355634458704)))) (N (N (N (N (L 4503874530492432) (L 20266749421428816)) (N (L 6755674598162448) (L 20266749422469200))) (N (N (L 4503876931960848) (L 18014957123936336)) (L 2252350912987216))) (N (N (L 4503879079444496) (L 18014948534001744)) (L 18014957124984912)))) (N (N (N (N (N (L 4503874530492440) (L 18014948534001744)) (L 38281147930910800)) (N (L 2252074970791952) (L 38281147931951184))) (N (N (L 4503874784479248) (L 18014957123936336)) (L 550025561168))) (N (N (N (L 4508274976620564) (L 18014949608530000)) (L 18014948538196048)) (N (N (L 4503891962019860) (L 18014957123936336)) (L 18014958198456384))))) (N (N (N (N (L 4503945389047832) (L 19140848440844368)) (N (L 4503874784477336) (L 18014949608784976))) (N (N (N (N (L 4519267936518160) (L 18014949607743568)) (L 18016048045629520)) (N (N (L 76561468822405136) (L 18014957123936336)) (L 54043745554014288))) (N (N (L 4504018663522328) (L 18016048046669912)) (N (N (L 4519285116387344) (L 18014957124984912)) (L 18086426453213248))))) (N (N (N (N (L 15771669935161364) (L 54043745552965712)) (L 19140848441630800)) (N (L 4505799464321048) (L 19210677092615168))) (N (N (N (L 4539061310095388) (L 54043745557151832)) (L 18033090480046080)) (N (N (L 4503617094811668) (L 18014407372308480)) (L 306244817879564288)))))),
  (N (N (N (L 7) (N (N (N (N (L 274877956112) (L 17592190239496)) (N (L 35184376300560) (L 2533274794590720))) (N (L 35184376300544) (L 2533274794590720))) (N (N (N (L 4538783999477764) (N (L 76561193665315840) (L 151152062762058240))) (L 40549988832387080)) (L 150870724955873792)))) (N (N (N (N (L 824633737280) (N (L 4538784540540928) (L 2533291974459904))) (N (N (N (N (L 4538784000000000) (L 4802666794320392)) (L 4802666794582024)) (L 40831463813283848)) (L 2533274794590720))) (N (N (N (N (L 4538784007864320) (L 7054466608005128)) (L 4802666794319880)) (N (N (L 5066583940546560) (L 148917854870175752)) (L 7036891601830400))) (L 7036874421961216))) (N (N (N (N (N (L 4503600701128708) (L 36046397794951176)) (L 40550006012256264)) (L 38298189287268360)) (N (L 78848177851088896) (L 2533275058831872))) (N (N (N (L 4503874639511552) (L 4521208997478408)) (L 4521191884718088)) (L 150870587785347072))))) (N (N (N (N (N (L 1924145348608) (L 21990232555528)) (L 6777389673611272)) (N (L 4539058877382656) (N (L 5067649092435968) (L 151165256633155584)))) (N (N (L 4538783999460352) (N (L 293296925732519936) (N (L 293332110104608768) (L 151222431237800448)))) (N (N (L 5067649092438016) (N (L 5101733952897024) (L 7045670510789120))) (L 151169654679666688)))) (N (N (N (N (L 4503599627370500) (L 184665176908242952)) (L 42801788646072328)) (N (N (L 76561193665314816) (L 148917854870175752)) (L 7036874686201856))) (N (N (L 292734800412803072) (L 148636379889270784)) (L 150870587516911617))))),
  (N (N (N (N (N (L 28) (L 1128)) (N (L 2072) (L 66152))) (N (N (L 4124) (N (L 4120) (L 33352))) (N (L 28) (L 1864)))) (N (N (N (L 4120) (N (L 6168) (N (L 4120) (L 33352)))) (N (L 4120) (L 41544))) (N (N (L 28) (L 1128)) (N (N (L 4104) (L 32840)) (N (L 2060) (L 66560)))))) (N (N (N (N (L 16777240) (N (N (L 16781336) (N (L 4120) (L 33587784))) (N (L 16777240) (L 671089224)))) (N (N (L 4124) (N (L 4120) (L 41544))) (N (N (L 16777240) (L 536871016)) (N (L 1090519064) (N (L 1090521112) (L 4831838792)))))) (N (N (N (L 274877906968) (L 549755813992)) (N (N (L 16781336) (L 134250600)) (N (L 412316860440) (N (L 1099511627804) (L 2748779070024))))) (N (N (L 16781320) (N (L 1073741976) (N (L 17592202821656) (N (L 1073745944) (L 35188667056712))))) (N (N (L 274894688264) (L 550292721728)) (N (L 17729633390600) (L 8864812498944)))))) (N (N (N (L 28) (L 9320)) (N (L 526336) (N (N (L 4108) (L 18014398509519936)) (N (L 6152) (L 18023194602569728))))) (L 2097153)))),
  (N (N (N (N (N (L 24) (L 304)) (N (N (L 34359738712) (L 4503599627370800)) (N (L 4503599627370840) (L 1073742128)))) (N (N (N (L 17179869528) (L 262448)) (N (L 274880004440) (L 274880004400))) (N (N (N (L 4503633987125528) (L 4503599627370800)) (L 4503599627370768)) (L 18014398509484304)))) (N (N (N (L 8589935960) (L 206158432560)) (N (L 4503599627379032) (N (L 4503599627371352) (L 528688)))) (N (N (N (N (N (L 4503599648342040) (L 4503599627370800)) (L 4503599627370800)) (L 4503599627370928)) (N (N (N (L 4503599627370840) (L 4503668346847536)) (L 4503599896068368)) (L 4503599695528208))) (N (N (L 4503599627370824) (L 4503599627370792)) (N (L 4503599627436360) (L 35185446879264)))))) (N (N (N (N (N (L 34359754776) (L 4503599627370800)) (L 4503599627895088)) (N (L 40532396646400792) (L 288230376153288976))) (N (N (N (N (L 4504699143192600) (L 4503599627370800)) (L 4503599627370800)) (N (N (N (L 4503599627371864) (L 4503599627372848)) (L 5629499534475568)) (N (L 4785074606178584) (L 5629499802648880)))) (N (N (L 4503625397305352) (L 4503668346978569)) (N (N (L 4504699143192604) (N (L 4507997673947416) (L 4521191814463792))) (N (L 40532396646334808) (L 292769161224912928)))))) (N (N (L 4503608217305092) (N (L 4503600164306944) (L 4503600702160896))) (N (N (N (L 4503633987125272) (L 4503599627370768)) (N (L 4503600164242184) (L 4679522561560576))) (N (L 40532400941301760) (L 308496574474878976)))))),
  (N (N (N (N (N (N (L 70368744177716) (L 70368744177888)) (N (L 70368744182048) (L 70368744243808))) (N (N (L 18049582898352160) (L 73183493961564256)) (N (L 9042658521514016) (N (L 576531121047605280) (L 2253998837006848))))) (N (N (N (L 70368744181768) (L 351843720972288)) (N (L 352118598799360) (N (L 576812596024447008) (L 422246825099776)))) (N (N (L 18366242230505504) (L 72409438832820320)) (N (N (L 576742227280269360) (L 422212465344624)) (N (N (L 576742227280269360) (L 422213539070064)) (L 288511851129798656)))))) (N (N (N (N (N (L 576531121047736352) (L 492581209522272)) (N (N (L 351848015990816) (L 351852311101536)) (L 351946801414144))) (N (L 1196543604428800) (L 1197540095557632))) (N (N (N (L 351843788132384) (L 351843855384672)) (N (L 351843788132384) (N (L 576812596024447008) (L 492615569244256)))) (N (L 576812596024447008) (N (L 576812596024447008) (L 281578057236480))))) (N (N (L 18084767253663776) (N (L 36380640739987488) (L 144467066156744800))) (N (L 576478344531411232) (N (N (L 612489549339299872) (L 422762237919328)) (L 1128236503269888)))))) (N (N (N (N (L 576531121047732244) (N (L 576812596024447008) (L 492581209506304))) (N (N (L 387028093112324) (L 1477743628009472)) (L 288582219872927744))) (N (L 352118607183872) (N (L 576742502158172448) (L 1548112372171264)))) (N (N (N (N (L 612559918066696228) (L 492581209506016)) (L 351843721153120)) (N (L 36310272004194592) (N (L 576746900204683296) (L 1548249811124736)))) (N (N (L 576531121047732244) (L 1548112372170880)) (L 292742771872169985))))),
  (N (N (N (N (N (N (L 262201) (L 262592)) (N (L 393264) (L 4456640))) (N (L 18014398576853040) (L 36029896547369152))) (N (N (N (L 134479920) (N (L 8590204976) (L 146029150400))) (N (N (L 10747952) (L 2359488)) (L 146029150400))) (N (L 10747952) (N (L 10747952) (L 18907328))))) (N (N (N (N (N (L 262192) (L 2359488)) (L 8590196928)) (L 266432)) (N (L 10747952) (L 19136704))) (N (N (L 10747952) (L 2359488)) (N (L 10747952) (L 18874560))))) (N (N (N (N (N (N (L 268697648) (L 8590196928)) (N (L 8590204976) (L 146028921024))) (N (L 9663815704) (L 148180566400))) (N (L 18014398519967760) (L 36028797037854848))) (N (N (N (L 68719738936) (L 2359744)) (L 2424960)) (N (N (L 1218576392) (L 2149712129)) (N (L 2200107614216) (L 9007201425293568))))) (N (N (N (N (N (L 4398046773296) (N (L 36169534507581488) (L 36028797019226304))) (N (N (L 10747952) (L 2359488)) (L 36028797019226304))) (N (L 10747952) (L 19136704))) (N (N (N (L 2251799813947440) (L 2359488)) (L 2359424)) (N (L 10747920) (L 18874496)))) (N (N (L 524292) (L 69632)) (N (N (L 10747920) (L 562949955518592)) (L 36028797037838336)))))),
  (N (N (N (N (L 10) (L 4194320)) (N (N (N (L 16777232) (N (L 16400) (L 16400))) (N (L 16400) (L 16400))) (N (N (L 1040) (L 1040)) (L 1040)))) (N (N (N (L 80) (L 272)) (N (L 1040) (L 1040))) (N (N (N (L 2199023386624) (L 9007199254741008)) (L 35184372088848)) (N (L 8388624) (N (N (N (L 34359738384) (L 9007199254741008)) (L 17592186044432)) (L 540672)))))) (N (N (N (N (N (L 83886080) (L 144)) (L 272)) (N (N (N (L 1040) (L 1040)) (L 536871936)) (N (L 2251799813686272) (N (L 1040) (N (L 1040) (L 4294968320)))))) (N (N (N (N (L 2228224) (L 17592186044432)) (L 1040)) (L 9007199254741008)) (N (L 8392704) (L 557056)))) (N (N (N (N (N (L 1099511627784) (N (L 9007199254741008) (L 9007199254741008))) (N (L 9007199254741008) (L 9007199254741008))) (L 9007199254741008)) (N (N (N (N (L 2251799813685264) (L 272)) (L 1040)) (L 24576)) (L 274877939712))) (N (N (N (L 140737555464192) (L 16400)) (N (L 16400) (L 540672))) (N (L 1125899906843648) (L 9007199254742016)))))),
  (N (N (N (N (N (N (L 67108896) (L 1073741920)) (N (L 67108896) (N (L 67108896) (L 2147483808)))) (N (N (L 17246978080) (L 18253611072)) (N (N (L 67108912) (L 1073742112)) (N (L 67108912) (N (L 67109408) (L 1024)))))) (N (N (L 67108900) (N (L 17246978080) (L 2147487872))) (N (N (L 67108904) (L 1073758240)) (N (N (L 16) (N (L 67108896) (L 2147484704))) (N (N (L 67108912) (L 1073741904)) (L 131072)))))) (N (N (N (N (L 17246978080) (N (L 68157472) (N (L 67108912) (L 2147483776)))) (L 1090519104)) (N (L 67108912) (N (L 67110944) (N (L 68157456) (L 2684362752))))) (N (N (L 67108900) (L 1090519072)) (N (N (L 17213423624) (N (L 67108912) (L 2147614752))) (N (N (L 17246978064) (L 18253611264)) (L 8589934592)))))) (N (N (N (N (N (L 17213423624) (N (L 68157456) (N (L 67371024) (L 70370892185600)))) (L 16777216)) (L 1099511644160)) (N (L 17213423618) (N (L 2267742732800) (N (N (L 17213423618) (L 1254130450432)) (N (L 17213423618) (L 282608848076800)))))) (N (N (N (L 67108900) (L 1090519072)) (N (L 2267742732800) (L 565423854583808))) (L 1))))]
def H49 : List (Nat × Nat × Nat) := [(3, 0, 26), (3, 24, 26), (3, 26, 0), (3, 26, 24), (3, 26, 26), (11, 0, 26), (11, 24, 26), (11, 26, 0), (11, 26, 24), (11, 26, 26), (11, 26, 28), (11, 28, 26), (3, 26, 28), (3, 28, 26), (3, 22, 26), (3, 26, 22), (11, 20, 26), (11, 26, 20)]
theorem lanes49 : Nat.beq (Nat.lor (badAll (algN fullN) nxN finN [⟨0, [1], 0⟩, ⟨0, [0], 1⟩, ⟨1, [0], 0⟩, ⟨1, [1], 1⟩, ⟨2, [0], 0⟩, ⟨2, [1], 1⟩] 1 [0, 1] T49) (hardN H49)) (hardN H49) = true := by decide +kernel
theorem small49 : T49.all smallT = true := by decide +kernel
end K81L
end
section
set_option Elab.async false
set_option linter.all false
set_option maxRecDepth 100000
/-! printed by gen_lanes2.py: the trees of words, table by table -/
namespace K81L
open K81M
def T52 : List Tri := [(N (N (N (N (N (N (N (L 562951564099647) (L 846625597754687)) (N (L 562958006950975) (L 846625732009023))) (N (N (L 844432983661631) (L 147213753078238271)) (L 144959614784609759))) (N (L 562958006950207) (L 144961815959801151))) (N (N (N (L 8053528671) (L 283815236328671)) (N (L 851030154123359) (L 144469372206308447))) (N (L 289074809236076863) (L 144961815959824703)))) (N (N (N (N (L 844433017215583) (L 144961953265601759)) (N (L 851305032030815) (N (L 433194395358411839) (L 145032322227883071)))) (N (N (L 290207306225260639) (L 145032322025508063)) (N (L 433194670248892511) (L 145033284234497119)))) (N (N (L 1970332991699007) (L 147213753078230335)) (N (L 433194395371518271) (N (L 289075084126558303) (L 145033284215606367)))))) (N (N (N (N (L 289074809135380799) (N (N (L 1976930069355583) (N (L 433194395370993983) (L 145032330750721343))) (N (L 434320295273634879) (L 146158256409529407)))) (N (N (L 290207301918242911) (N (L 433194395358403647) (L 144469372140244031))) (N (L 433194395370993759) (L 721493624202185823)))) (N (N (L 1976930069329983) (N (L 433194412546660447) (N (L 290207306221033535) (N (L 433194395371518271) (L 145040989404265791))))) (N (L 433194670244706367) (N (L 289081406314199135) (L 145032184972418143))))) (N (N (N (L 1974731046598719) (L 144961961855528255)) (N (N (L 434320290982860895) (L 147214302834035807)) (N (N (L 1974726755293247) (N (L 437698265581303871) (L 154039383975509055))) (N (L 434320290982870079) (L 184438681728683071))))) (N (N (L 434320295274166591) (L 147222549439425855)) (N (L 289075084126304575) (L 729947081913116991)))))),
  (N (N (N (N (N (N (L 29) (L 524925)) (L 524924)) (N (N (L 34366557212) (L 824644764236)) (N (L 140737625325852) (L 2322169709986572)))) (N (N (N (N (N (L 2624540) (L 824644764284)) (L 70652281848700)) (N (L 17183548446) (L 70652281848638))) (N (L 1168234775580) (L 283572273980))) (N (N (L 281509607637004) (L 550303728141)) (N (L 4644339401098252) (L 2322169736266252))))) (N (N (N (N (L 68723147932) (L 70652281848652)) (L 824636375628)) (N (N (L 140737625326876) (L 2324643544040012)) (N (L 149533719266589) (L 2357628959785228)))) (N (N (N (L 1168251551772) (L 283537638268)) (N (L 1127085472481308) (L 70652282798348))) (N (N (L 4644339265832204) (L 2324644080943628)) (N (L 40681932513214733) (L 2357354081813004)))))) (N (N (N (N (L 17183540412) (N (L 140737626375196) (L 2322444580586300))) (N (L 17183671324) (L 2322460685370124))) (N (N (L 140754805195836) (N (L 4644339401098268) (L 2322444580553532))) (N (N (L 281509607506959) (N (L 1168385770526) (L 4681584148814))) (N (L 4925848737547279) (L 2340620881887757))))) (N (N (N (L 141837023051788) (L 2326704658318092)) (N (N (L 140771984933135) (L 2324953318294029)) (L 2322185807462668))) (N (N (L 4644339270026300) (N (L 40681932513084444) (L 2357628952412428))) (N (N (L 41517593424691471) (N (L 4644408119526686) (L 2326580632813900))) (N (N (L 5488865125598470) (L 93241653791850502)) (N (L 41517679458255118) (L 164451763733136130)))))))),
  (N (N (N (N (N (N (L 13) (N (L 286) (L 137439020034))) (N (N (L 1099515824140) (N (L 1099712970764) (L 4295050240))) (L 34361902080))) (N (N (N (L 1099511628830) (L 137439036416)) (N (L 1099511628830) (L 137439036416))) (N (N (L 1099612291102) (L 137472590848)) (L 115721)))) (N (N (L 549755813900) (N (L 1099513725196) (L 2233385156608))) (N (L 549760008204) (L 34930692)))) (N (N (N (N (L 1099513725196) (L 34361918464)) (N (L 140737490452736) (L 8830455382016))) (N (N (N (N (L 1099712970764) (N (L 1099712987148) (L 12885017600))) (L 33637888)) (N (L 1099880857612) (N (L 1099712970764) (L 4295311360)))) (N (L 9147936879575040) (N (L 2393087498256384) (N (L 1099712970764) (L 2203336065024)))))) (N (L 274882101250) (N (L 2252349577904140) (L 4573972692746240))))) (N (N (N (N (L 1099511629836) (L 17907840)) (N (N (L 549760012299) (L 33824777)) (N (N (L 1099616485398) (L 4505940419149824)) (N (L 1099616485398) (L 4505940418101248))))) (N (N (L 549760008204) (L 4346347648)) (N (L 141012368359428) (L 853289743679492)))) (N (N (N (L 1099587125260) (L 2203336114304)) (N (N (L 2252349573726219) (L 33587209)) (N (L 1143766970826763) (L 35253125152777)))) (N (L 1266912277299218) (L 5350361053265920))))),
  (N (N (N (N (N (N (N (L 30) (L 274877908112)) (L 1216)) (L 2098336)) (N (N (L 1099511630088) (L 70368744178824)) (N (L 562949953423624) (L 4503599627371656)))) (N (N (N (N (L 2320) (L 66704)) (L 1088)) (N (N (L 2147485968) (L 68719477904)) (L 1073742912))) (N (N (N (L 140737488357648) (L 66688)) (L 70368744178696)) (N (N (L 9007199254743312) (L 68719477888)) (L 4503599627371528))))) (N (N (N (N (L 4196616) (L 1073742856)) (N (L 8796097218561) (N (L 9007201402224640) (N (L 137438959620) (L 4398082686976))))) (N (N (L 562949953423624) (L 4503599627371528)) (L 285873058873344))) (N (N (N (L 32844) (L 1073742912)) (N (N (L 1101667500032) (L 70439879573504)) (N (L 2147483650) (L 70439879573504)))) (N (N (L 1050888) (L 4503599627371528)) (L 4398082686976))))) (N (N (N (N (L 549755820064) (L 281475010266144)) (N (N (L 9008298766372872) (N (L 140737488357392) (L 4398113685632))) (N (L 9570149208162312) (L 22535590322896904)))) (N (N (L 133156) (L 2622496)) (L 4672924483712))) (N (N (N (L 536870924) (L 285873025319936)) (N (L 550296879108) (L 281476052549632))) (N (N (L 137438959648) (L 4406670524416)) (N (L 9016132786716676) (N (N (L 9007199254745090) (L 18014467262513154)) (N (L 9007201402224640) (L 18014467228958722)))))))),
  (N (N (N (N (L 12) (N (L 140) (N (L 140) (L 96)))) (N (N (L 132) (L 32832)) (N (L 132) (N (L 140) (L 65600))))) (N (N (N (L 140) (N (L 134219776) (N (L 2251799813685254) (L 268468736)))) (N (L 140) (N (L 17314088960) (N (L 2251799847239684) (L 34628174336))))) (N (N (L 4) (L 1024)) (N (L 132) (N (L 17314088960) (L 409600)))))) (N (N (N (N (L 140) (L 73744)) (N (N (L 2251799830462468) (N (L 33554568) (L 8590008320))) (N (N (L 2251799847239688) (L 4503599694479424)) (N (L 2251799847239688) (L 4503608217370624))))) (N (L 33556482) (N (N (L 50331648) (N (L 2054) (L 8594194432))) (N (N (L 2199056809992) (L 4406636445760)) (N (L 2251799847241728) (L 4503608217305088)))))) (N (N (N (L 12) (L 73792)) (N (N (N (L 2251799847239688) (L 4503599694479424)) (N (L 2251799847239688) (N (L 8813407109120) (N (L 138529472512) (L 35461397479424))))) (N (L 1099528404992) (N (L 2251799864016896) (L 4508006263816192))))) (N (N (L 132) (L 74752)) (N (L 17322475520) (L 619012161536))))))]
def H52 : List (Nat × Nat × Nat) := []
theorem lanes52 : Nat.beq (Nat.lor (badAll (algN fullN) nxN finN [⟨0, [0, 1], 0⟩, ⟨1, [0], 0⟩, ⟨1, [1], 1⟩, ⟨2, [0, 1], 1⟩] 1 [0, 1] T52) (hardN H52)) (hardN H52) = true := by decide +kernel
theorem small52 : T52.all smallT = true := by decide +kernel
def T53 : List Tri := [(N (N (N (N (L 1125951446466575) (L 1697697492942879)) (N (N (N (N (L 1688970119463039) (L 37727114069920287)) (N (L 37745395589302399) (L 37727114069920319))) (N (N (L 13009545077053567) (L 337216489290058271)) (L 37727114069396031))) (N (N (N (L 12956905941097535) (L 48986113138346527)) (L 48986113137822271)) (L 336089970898946143)))) (N (N (N (N (L 1688971193204863) (N (L 37744296094451839) (L 37727114204138015))) (N (N (N (N (L 12974364984199295) (L 48986113138346527)) (L 48986113138346623)) (L 48986113138346527)) (L 37727114204138047))) (N (N (N (N (L 12974360746907775) (L 48986113272563807)) (L 48986113138346015)) (L 49126850626701855)) (N (N (N (L 139075287718674559) (L 48986113272564319)) (L 48986113138346527)) (L 337216489423751199)))) (N (N (N (N (L 3949573542363199) (L 48985563382530079)) (L 48986113138606111)) (L 48986044418343519)) (L 37726564313579551)))) (N (N (N (N (L 1689107558416511) (N (L 37744296077674623) (L 37727114069330495))) (N (N (N (N (L 12977659223070847) (L 49126850760919135)) (L 48000950719858719)) (L 48000950719334943)) (L 47860213365131359))) (N (N (N (N (L 4002483261259839) (L 49126850626701855)) (L 49126850626701887)) (N (N (L 121095936117162047) (L 337216489290058271)) (L 48986113272039487))) (L 37727114061006911))) (N (N (N (N (L 3967161433440319) (L 48986113137821727)) (L 48986388015729247)) (N (N (L 139077349571412031) (L 337216489289533471)) (L 48985563516225631))) (N (N (N (L 121342364160737407) (L 48986113137822239)) (L 49126850626177631)) (N (N (L 715535902566373439) (L 337216489289533471)) (L 336089970907332703)))))),
  (N (N (N (N (N (L 18014398511579167) (N (L 18014424282433630) (L 9147966962601597))) (N (N (L 18014450052237406) (N (L 18027610100467806) (L 9152365041651280))) (N (L 18014458910607455) (L 27162365471035228)))) (N (N (N (L 51542755422) (N (L 13211590985822) (N (L 18018856957122654) (L 27166763551133300)))) (N (L 13211590985822) (L 9152365041659516))) (N (N (L 18018856957118559) (L 27026056093895768)) (N (L 18018856957118558) (L 27021623687711837))))) (N (N (N (L 18014450052237406) (N (L 18027747539421407) (N (L 18018856957118558) (L 9152639919525466)))) (N (L 18027610100467934) (N (L 18018856957118559) (N (L 18027653050140766) (L 27166763551100498))))) (N (N (L 18014459044829279) (N (L 18018960036333790) (N (L 18018856957118559) (N (L 18018822597384286) (L 27166764087971445))))) (N (L 18018822597511390) (L 27021628016231543))))) (N (N (N (L 60132690014) (N (N (L 13254272223327) (N (L 13220180920414) (L 9152360750845528))) (N (N (L 18018856688683102) (L 27026090453634129)) (N (L 18027618690402398) (L 27167377731423312))))) (N (N (L 18027653050144862) (N (L 18027618690402527) (N (L 18027653050140766) (N (L 18027618690406495) (L 27219540109233269))))) (N (N (L 18018856957118559) (N (L 18027618690402398) (N (L 18300331933829342) (N (L 18027653050140767) (L 27730263226780761))))) (N (L 18028752561768543) (L 27168962540801117))))) (N (N (N (L 18018856688683103) (L 27026090323608692)) (N (L 18027756129355998) (N (N (L 18018856957118559) (L 99083684491562066)) (N (L 18027653050140766) (L 99224426274950227))))) (L 9011623206323211)))),
  (N (N (N (N (N (N (N (L 8589934646) (L 2251803170054960)) (N (L 10738221622) (L 2251803169923889))) (N (L 4503610365600380) (L 583216155100718073))) (N (N (L 4503606070616188) (N (L 2209761460788) (L 2814821859336752))) (N (L 4503606339051646) (L 583217254628993272)))) (N (N (L 15033172260) (N (L 2209761468540) (L 2814753139860344))) (N (L 2148271398) (L 2251803186606368)))) (N (N (N (L 15033172276) (N (N (L 15033172534) (N (L 4503610365575476) (L 2251870833353008))) (N (L 15301607990) (L 2252970616431154)))) (N (L 4505800798897444) (N (L 4503606070616189) (N (L 4505805362299446) (L 2814752066183730))))) (N (N (L 15301345318) (L 2252971283456548)) (N (L 4503601775641892) (L 2251802146373921))))) (N (N (N (N (N (L 4503614660288636) (L 583217322123731448)) (N (L 4503610365584508) (L 583216772502270456))) (N (N (L 15033180285) (N (L 11006640702) (L 2251872174481968))) (N (L 4503614928724093) (L 578713997525131385)))) (N (N (L 9009409284374564) (N (N (L 13510809620316222) (N (L 4503610365576500) (N (L 4512406458605692) (N (L 4503610365575742) (L 2269463018218288))))) (N (L 4505809388847158) (N (L 4503614660542772) (L 2398037159354672))))) (N (L 15033173028) (N (L 4505805362036859) (L 583780203374444665))))) (N (N (N (L 13510809620054070) (L 2251906132615456)) (N (N (L 589971557628772475) (L 583217528298807417)) (N (N (L 13510805593522230) (L 20266201561834034)) (N (L 4503606339043890) (L 20266201695912499))))) (N (L 4503606338781714) (L 20266201561760275))))),
  (N (N (N (N (N (L 22) (L 536879156)) (L 538976308)) (N (N (N (L 3221233692) (N (L 284543951894) (L 2251937791877172))) (N (N (L 4504450033037332) (L 36028801316302900)) (L 2251804111020084))) (N (N (L 4504426408587292) (L 36028801316302901)) (L 36028934996899892)))) (N (N (N (N (L 3221282836) (L 2498868)) (N (L 275958227988) (L 2251804127797268))) (N (N (N (L 4503874512105492) (L 36028801316302900)) (L 36028801316302900)) (L 36028797038114836))) (N (N (N (L 1099517943828) (L 36046389224153140)) (L 35188669423636)) (N (N (L 4503876667973660) (L 36028801316298812)) (N (N (N (L 4503891691970580) (L 36028801333075988)) (L 36037597409320988)) (L 36028797038108692)))))) (N (N (N (L 1073782814) (L 2251941549973564)) (N (N (N (N (L 850674065430) (L 36055258314580020)) (N (L 4503883101515798) (L 36028801852911668))) (L 36028801316298804)) (L 2251804664406036))) (N (N (N (N (N (L 825707495444) (N (L 36099441721630740) (L 36046530957811764))) (N (L 40532680120524820) (L 36028801332813876))) (N (L 4503875585339412) (L 36028938754994196))) (N (N (N (N (L 13511082356809748) (L 36028801316430388)) (L 36028801316433940)) (L 36028801316298780)) (N (L 4503883236270100) (N (L 4503885249519644) (L 36063985704902676))))) (N (N (N (L 4644613071593500) (L 36028938755252284)) (N (L 4503884175532052) (L 36028801316298772))) (N (N (L 76597204823314462) (L 36064535444205596)) (N (N (L 4539611859152926) (L 36064535444205596)) (N (L 76597205897056286) (L 180144123089522688)))))))),
  (N (N (N (N (N (N (L 35184372088893) (L 175921877225697)) (N (L 35184405643452) (L 175939090780896))) (N (N (L 17626780663965) (L 2269427517100225)) (N (L 9024828015116957) (N (L 9042420201161406) (N (L 9007510706979740) (L 4503617964872324)))))) (N (N (N (N (L 35184472760510) (L 180338244456640)) (L 175923018076353)) (N (L 35218832490684) (L 175943452726976))) (N (N (L 52776793014461) (N (L 35218832490686) (L 180341465813666))) (N (N (L 9042385874976958) (L 4683989411958928)) (N (N (L 9042386009211068) (L 4679591365513424)) (L 4508084732039296)))))) (N (N (N (N (L 52811018535068) (N (L 43980567871676) (N (L 9042695246840476) (L 4538806767194752)))) (L 35185529716928)) (N (N (L 9042420234715836) (L 4679522645447840)) (N (L 9042420234715836) (N (L 9042420236812956) (L 4503760236708480))))) (N (N (L 52776793014460) (N (L 35493710397628) (L 175943452721824))) (N (N (L 9024828048675340) (N (L 9042420234715836) (L 4679750278845088))) (N (N (L 9024828048675356) (L 6773783058714752)) (L 4503617964871680)))))) (N (N (N (N (N (L 52810917871807) (L 175922145661121)) (L 4679590224068800)) (N (L 43980565782940) (N (N (L 9042385874977470) (L 40712786430918816)) (N (L 9042385843782326) (L 40994261394653824))))) (N (L 35218765381790) (L 2441070466171010))) (N (N (N (L 9042383828156606) (L 4679590291181792)) (N (L 9051456980124564) (L 7222693040489092))) (N (N (L 9042383828156596) (L 6940186197885120)) (N (L 9016272473817860) (N (L 153713926834487809) (L 942400230513442817))))))),
  (N (N (N (L 7) (N (N (N (N (L 6442713108) (L 2473901720584)) (L 2473901719560)) (N (N (L 4402377129988) (L 8796365684872)) (N (L 17596514697220) (L 8796379283592)))) (N (N (N (L 1130302248321028) (L 4503874505311240)) (L 4505798785925128)) (N (N (L 36028803461545988) (L 2199426957448)) (L 18577348479713288))))) (N (N (N (N (L 6442778628) (L 2473918496776)) (N (L 4404489289732) (L 9070988296192))) (N (N (L 1130302250418180) (L 18023194607779848)) (N (L 1143496421605376) (N (L 38298197644345346) (L 43980755566592))))) (N (N (N (L 1125904201810180) (L 4503874522087432)) (N (L 9007201435844880) (L 8796109865472))) (N (N (L 6442598404) (L 18016597668003848)) (L 571746067456008))))) (N (N (N (N (L 15032385540) (N (N (L 2256210745360388) (N (L 17596483371012) (L 572038125715464))) (N (L 36046402123464708) (L 44324347707400)))) (N (N (L 4402341740550) (L 11269994741760)) (N (L 1143505011343362) (L 18025668520443904)))) (N (N (L 4402343577604) (L 11012434567176)) (N (N (L 2269404884635650) (N (L 22552906825732) (L 10170486752256))) (N (N (L 36046402092007428) (L 11270401032192)) (N (L 36046402123464708) (L 11270262620160)))))) (N (N (N (L 1125899908939782) (L 5075345678041096)) (N (N (L 10133103456681986) (L 18025393626808320)) (L 571748210704392))) (N (N (L 6979321860) (L 10995254730752)) (N (L 1143494777241602) (N (N (L 38280611865034754) (L 72068590496382976)) (N (L 39406505329426434) (L 72066391473127424)))))))),
  (N (N (N (N (N (N (N (L 50) (L 69801611408)) (N (L 8388658) (L 69801611410))) (N (N (L 16777232) (N (L 281475261988896) (L 140738109178144))) (N (L 16777232) (L 140771931980816)))) (N (N (N (L 16781840) (L 68803366912)) (N (L 16781840) (L 68803366912))) (N (N (L 281475060596752) (L 140806291722240)) (L 140737572405256)))) (N (N (L 16777252) (N (L 25166408) (L 69885755456))) (N (L 16777220) (L 140737577549828)))) (N (N (N (N (L 25166344) (L 1166282760)) (L 88080640)) (N (N (N (L 281475329032208) (L 140737572246528)) (L 140737572634632)) (N (L 281475270443009) (L 140739191373824)))) (N (N (L 274928238628) (N (N (L 2164260866) (L 140739719726080)) (N (L 139603214338) (L 140774079463424)))) (N (L 281475027107844) (L 140737610055680))))) (N (N (N (N (N (L 274911461448) (L 262473)) (L 140737559658784)) (L 69801611264)) (N (N (N (L 1134696033419336) (L 84148553)) (L 2392537390121248)) (N (L 137455730692) (N (N (L 1407374900330514) (L 140806291722240)) (L 140738654371849))))) (N (N (N (N (L 1416170984964104) (L 140737580892168)) (L 140737576435968)) (N (L 281612432506884) (L 140875015454724))) (N (N (N (N (N (L 18295873519747108) (L 140737559658784)) (L 140806291722256)) (L 140738637856840)) (L 140741854626048)) (N (L 281612432506884) (N (L 281474993618953) (L 288371114781048841))))))),
  (N (N (N (L 5) (N (N (L 20) (L 40)) (L 4194312))) (N (N (N (N (L 80) (L 1048584)) (N (L 67108928) (N (L 549755814016) (L 136314880)))) (N (N (N (N (L 4112) (N (L 8208) (L 524296))) (L 2056)) (N (L 16400) (N (L 4112) (L 262152)))) (N (L 67117056) (N (L 549755830272) (L 134348800))))) (N (L 130) (N (L 272) (L 33555200))))) (N (N (N (L 146) (N (N (L 549755813889) (N (L 18) (L 37749248))) (N (N (L 549755813906) (L 1099549376512)) (N (L 549755813906) (L 1099549376512))))) (N (L 18) (L 37748736))) (N (N (N (L 4) (L 33554976)) (N (N (N (L 549755813906) (L 1099549376512)) (L 277025390593)) (L 4294967300))) (N (N (L 20) (L 33554976)) (N (L 67108868) (N (N (L 549755813890) (L 1099515822080)) (N (L 549755813890) (L 1099515822080))))))))]
def H53 : List (Nat × Nat × Nat) := [(3, 26, 0), (11, 26, 0)]
theorem lanes53 : Nat.beq (Nat.lor (badAll (algN fullN) nxN finN [⟨0, [1], 0⟩, ⟨0, [0], 1⟩, ⟨1, [0], 0⟩, ⟨1, [1], 1⟩, ⟨2, [0, 1], 1⟩] 1 [0, 1] T53) (hardN H53)) (hardN H53) = true := by decide +kernel
theorem small53 : T53.all smallT = true := by decide +kernel
def T60 : List Tri := [(N (N (N (N (L 2252349569499151) (L 75577681051320351)) (N (N (N (N (L 8030283710791807) (L 111613075141362975)) (L 1274888565491135)) (N (N (L 8311761910828159) (L 111613079469884703)) (L 73332482602370239))) (N (N (N (L 3808160134925375) (L 111608677094851871)) (L 111608677094851903)) (N (N (L 224484544022513727) (N (L 445160932209265791) (L 75584282417112191))) (L 75579880074576959))))) (N (N (N (N (L 3526684083421375) (L 73332478308713631)) (L 109361275327677535)) (N (N (N (N (L 8311759764393087) (N (L 219980942254997567) (L 111613079838983199))) (L 109361275327677471)) (N (N (L 224484550535219327) (L 111613075174925663)) (L 109361280025297951))) (N (L 219980942254997567) (N (L 152426947907357759) (L 116116679466353695))))) (N (N (N (L 3803764234846911) (L 111608681389818015)) (L 111608677094589791)) (N (N (N (N (L 224484552616118399) (L 112184821187814495)) (L 111613079469884447)) (N (L 152426982275484735) (L 111613079570547743))) (N (L 147637492369542207) (N (L 224480178191401023) (L 80083483998225439))))))) (N (N (N (N (L 3385947668547711) (N (N (N (N (L 8329371276741759) (L 111613143860577567)) (L 111621875529090431)) (L 116116674768733471)) (L 75584557293962303))) (L 73332482603679775)) (N (N (L 8311761910827135) (N (L 219980959429640255) (L 75866032405939263))) (L 73613957580391487))) (N (N (N (N (L 8025886738022463) (N (L 224480143828516927) (L 692573033454830623))) (L 111617473187873887)) (N (L 228983743459033215) (L 111608681524036703))) (N (N (N (L 219980942247673919) (L 129627477945549855)) (L 112184821187552351)) (N (L 444875058112040063) (L 652603586627445855)))))),
  (N (N (N (N (N (N (L 1125899906842655) (L 1690155530489977)) (N (N (N (L 1127411737333886) (L 1690157682954357)) (L 578150907855671408)) (N (L 1127416031252799) (N (L 1127416044892286) (N (L 1690365997265087) (L 578150909986189949)))))) (N (L 1127411736285310) (N (L 1690365997264927) (N (L 1690365997264958) (L 578291664654676023))))) (N (L 481036767262) (N (L 1127416031252607) (L 578150909986189429)))) (N (N (N (N (L 1127416031252638) (N (L 1129610767929662) (L 577165764814943285))) (L 564257776111733)) (N (N (L 1129610772131870) (N (L 1130164822913086) (N (L 1129615067099262) (L 578291664755339381)))) (N (N (N (L 1692560725553278) (L 578291645344026741)) (L 580543447288418418)) (N (L 1692565288955966) (N (L 1692565020520574) (L 578291664721784949)))))) (N (N (N (L 3379211549937823) (L 1830895173406845)) (L 1830895171309684)) (N (L 1127149756919934) (N (L 1690091119357983) (L 578150927166312477)))))) (N (N (N (N (L 1126861980340350) (L 578150907838894196)) (L 578150909986377749)) (N (N (L 3381410581450814) (N (L 1692560721318047) (N (N (L 3944369125986366) (L 578296045588353140)) (N (L 1692569316536447) (N (L 1692560725553343) (L 578586333838028921)))))) (N (L 1270348247732287) (N (L 1692565016154143) (L 578291939532558365))))) (N (N (N (L 3942711268474943) (L 578291645327249525)) (N (N (L 578153313028943903) (N (L 1692285847646271) (N (L 10699764275261567) (N (L 1692565020520511) (L 596306338109190201))))) (N (L 1692285847613471) (N (L 3944364834205759) (L 585047064095469619))))) (N (L 1692565007536159) (L 579417545233764375))))),
  (N (N (N (N (N (N (N (L 2269391999729726) (L 37163774339974421)) (N (L 2304589257247806) (L 1152565279228982))) (N (N (L 2383749800525887) (L 37665224673461524)) (L 39433164259362013))) (N (N (N (N (L 74433101795166271) (L 39919257853396276)) (L 39855421821551636)) (N (L 2938062607230526) (L 39855387461846068))) (N (N (N (L 3501631136104508) (L 39919257852871988)) (L 39857685202240788)) (L 39470622749066461)))) (N (N (N (N (N (L 74433099648729150) (L 37667114467460405)) (L 39919193454019860)) (N (L 2938595154853918) (L 37394673996432407))) (N (N (L 78936701423583294) (L 37667423696717076)) (L 3896959187059804))) (N (N (N (L 2938475025802782) (L 39848893429318677)) (L 39892869582705117)) (N (N (L 80071393128513597) (L 39857650859279636)) (L 39470556244640861))))) (N (N (N (N (L 74433101795427935) (L 39884077776241884)) (N (L 2938595149874783) (L 39857586485101788))) (N (N (L 74362939209486431) (L 37632239307936860)) (L 39855486246094132))) (N (N (N (L 2938457743951452) (L 39928058240828508)) (L 37605816685823284)) (N (N (L 78870936883368028) (L 39892835214644316)) (L 39435473340630324))))) (N (N (N (N (L 74441893594269759) (L 616379975813858608)) (N (L 2868226539653174) (L 111633768292581425))) (N (N (L 78936701557803068) (L 39928020140327220)) (L 1647903857443858))) (N (N (N (N (N (L 80062597034442814) (L 39848614231311381)) (L 39884077776274524)) (L 39848614248087861)) (L 44361250469577748)) (N (N (N (L 75559002775782494) (L 616379705213617237)) (N (L 75488634165824604) (L 111915249779377232))) (N (L 75493237297023022) (L 687953542052610337)))))),
  (N (N (N (N (N (L 4503599627370526) (N (L 4503599963014812) (L 6755399476748920))) (N (N (L 4503600030254748) (L 4512430080950888)) (N (L 13510799154841246) (L 6764195536208712)))) (N (N (N (L 335775388) (L 8798241063545)) (N (L 335775388) (L 2260596211352184))) (N (N (L 4503600571319838) (L 22526828606685800)) (L 2260595942396776)))) (N (N (N (L 402884252) (N (L 4567828117) (L 2260604533178944))) (N (L 4503599963145884) (N (L 4503599900231324) (L 2260595909427776)))) (N (N (N (L 13510799163228190) (L 22526828639978104)) (N (L 4503603993740316) (L 6764204159763008))) (L 38280631195172938)))) (N (N (N (N (N (L 76561194676127260) (L 580973151261852280)) (N (L 13510872236492444) (L 78821798164112240))) (N (N (L 73152990740) (L 18014433004261984)) (N (N (L 85586003225609756) (L 580964389562909248)) (L 578712597351142208)))) (N (N (N (N (L 13511280333751324) (L 4512432277979768)) (L 4512432244425336)) (N (N (N (L 13510799222081180) (L 4512433318953584)) (L 41667129472881264)) (N (L 4785143730635796) (L 43919479027700336)))) (N (N (N (L 40549989235229724) (L 41667129472614976)) (N (L 4504772426269726) (L 4516804541293120))) (N (N (L 13511280329688094) (N (L 4504703773934613) (L 6909344023093824))) (N (L 76578854977865360) (L 583224984380375616)))))) (N (N (N (L 13510799221982238) (L 4512398958690880)) (N (L 4503672713216020) (L 6764208489332800))) (N (N (N (L 85568393930868252) (L 598987549771334264)) (N (L 4503673115837973) (L 78821832523850304))) (N (L 76561267015353862) (L 650778955235721728)))))),
  (N (N (N (N (N (L 9007199254741022) (L 9007749010818108)) (N (N (N (L 45040394320746524) (L 9042383660397884)) (L 82190762187437116)) (N (L 9013865043990685) (N (L 585472349605206044) (L 11259823702226236))))) (N (N (N (L 6665789249693) (L 1161634303456284)) (N (N (L 585472349605730334) (L 9016545372025916)) (N (L 585472349606254620) (L 9016682542544188)))) (N (L 9011597301782620) (N (L 585474617347414173) (L 292734044498638348))))) (N (N (N (N (N (L 585472349606254620) (L 9015995649766460)) (N (N (L 6598146660380) (L 1125902323037212)) (L 163208836140))) (N (N (L 142936513185794) (L 1407375186592770)) (N (L 143005236856842) (L 1407589901435914)))) (N (N (N (L 4467307583516) (L 310391852)) (N (L 4467307583516) (N (L 585472350142601308) (L 9016004071929148)))) (N (L 585538320907896848) (N (L 585470219839342610) (L 1125925946196994))))) (N (N (L 27025995812835358) (L 81100527454397488)) (N (L 585472349607303260) (N (L 585538320369993749) (L 14074058275325216)))))) (N (N (N (N (L 585472349604681822) (N (N (L 585472349605726234) (L 9020943419581488)) (L 13537221722809648))) (N (N (N (L 4466767562776) (L 72093328467821600)) (N (L 4466767562776) (L 74344655533212712))) (N (L 585610956789252245) (L 294284364483985920)))) (N (L 9011666021779483) (N (L 585539419814500432) (L 15279672573166880)))) (N (N (N (N (L 585474617348462620) (L 10141964242531388)) (L 9042383660655920)) (N (L 45107464530038864) (N (L 585610888137934995) (L 370854551944692512)))) (N (N (L 603486748114163806) (L 82235223454262304)) (L 367079103759713280))))),
  (N (N (N (N (N (L 18014398509482014) (N (L 18014399046453276) (L 9007199256880236))) (N (N (L 18014398509647884) (N (L 18014398509647900) (L 1221708))) (N (L 18014398513842188) (L 136357196)))) (N (N (L 3221391372) (N (L 18014398509647900) (L 35188670374924))) (N (L 18014398509647884) (N (L 18014398509647884) (L 9007199389000716))))) (N (N (N (L 18014398509713548) (N (L 18014398513907724) (N (L 18014673391749134) (L 3317836)))) (N (L 18014398509648012) (L 1482828))) (N (N (N (N (L 18014398522228764) (L 1213548)) (N (L 4360204) (L 34394514508))) (N (L 18014535965444108) (L 4398083383308))) (N (L 18014398513905676) (L 136347716))))) (N (N (N (N (L 18014399583387676) (N (N (L 18014538096082956) (N (L 18014398509647900) (L 35188668277836))) (N (L 18023196750151692) (L 52793739219020)))) (N (N (N (L 18014538096082972) (N (L 18014536485537804) (N (L 18014674461296652) (L 9044582651305996)))) (N (L 18014400657131548) (L 35802850959372))) (N (N (L 18023196750151692) (L 35253092778060)) (N (L 18014538096082956) (L 9011666021941260))))) (N (N (L 18014538096082956) (N (L 18014407099582476) (N (N (L 18014400657131532) (L 175926156624972)) (N (L 18014400657131532) (L 175926156632140))))) (N (L 18014400124452876) (N (L 18084768327565326) (L 2286984186986572))))) (N (N (L 18014399583223814) (L 35185714298948)) (N (N (L 18014401730871308) (L 35253092778060)) (N (N (L 306244775734935558) (L 35185445863492)) (N (L 90071993084313605) (L 189151184349560833))))))),
  (N (N (N (N (N (N (N (L 28) (L 1125899906867984)) (N (L 16412) (L 25360))) (N (L 1125899906859100) (L 1125899906868160))) (N (N (L 16785420) (N (L 1125899906859036) (L 1125899906851328))) (N (L 268443660) (L 268446344)))) (N (N (N (L 16476) (N (L 16412) (N (L 49196) (L 562949953708064)))) (N (L 4210780) (L 4284480))) (N (L 1068) (N (L 1125899906850828) (L 144115188075864072))))) (N (N (N (N (L 1125899906850828) (L 1125899906853512)) (N (N (L 288230651038007298) (L 288265560792236034)) (N (L 275960045568) (L 288265560792236034)))) (N (L 268436524) (L 1099815714816))) (N (N (L 16810044) (N (N (L 275960037376) (L 44256685195264)) (N (L 275960037378) (N (L 268484652) (L 1101929644544))))) (N (L 268436492) (L 1099815714816))))) (N (N (N (N (L 16444) (L 25376)) (N (N (N (L 4210716) (L 1099513725440)) (N (L 4210716) (L 1099517919744))) (N (L 275154739208) (L 288274356885266440)))) (N (L 549755830300) (N (N (L 274886303816) (L 35184640532616)) (N (L 1126174793146376) (L 1161084547375112))))) (N (N (N (L 16778284) (L 1099547279616)) (N (L 2336734838788) (N (N (L 2252074968416258) (N (L 2336734838788) (L 9570149478694912))) (N (L 276228481024) (L 328762773066481666))))) (N (L 275960045570) (N (L 137711584260) (L 297800525395525632)))))),
  (N (N (N (N (L 12) (N (L 1132) (L 1588))) (N (N (N (L 1260) (L 13510798882112548)) (N (L 4503599627371628) (L 13510798882112548))) (N (L 4503599627371620) (L 13510798882112804)))) (N (N (N (L 1260) (N (N (L 4503599627375622) (N (L 4503599627371628) (L 13511074028463108))) (N (L 4503599627375622) (L 13510809619694596)))) (N (L 4503599627371628) (L 13511074028463108))) (N (L 17592186045446) (N (L 4503599627371620) (L 13511074028463108))))) (N (N (N (N (L 1260) (N (N (L 4503599635760196) (N (L 4503599627371628) (L 13510798898897956))) (N (L 4503599635760196) (L 13510798949254180)))) (N (N (N (L 4503599635760196) (L 13510799150547972)) (N (L 4503599635760196) (L 13511074028454916))) (N (L 4503600705307654) (L 13510810693272580)))) (N (N (L 35184372089924) (N (L 140737521912900) (N (L 17609365914694) (N (L 4503599627371620) (L 13510833241859108))))) (N (N (N (L 2533274798789700) (L 2252074960028676)) (N (L 17609365914694) (L 275147392004))) (N (L 4556376189699076) (L 2254009574360068))))) (N (N (N (L 35184372088844) (L 13511074028463108)) (N (N (N (L 4503599635760196) (L 13510799150547972)) (L 2251810551104516)) (N (L 17592186045444) (N (L 4538783999464452) (L 13581167626290180))))) (N (N (L 4503599627371620) (L 13511074028463108)) (N (N (L 4609153821573120) (L 13618562832793600)) (N (N (L 4609152743641088) (L 13616351998377984)) (N (L 4609152743636994) (L 13510798883160064)))))))),
  (N (N (N (N (N (N (L 25) (L 1048601)) (N (N (L 67108880) (N (L 3221226512) (L 68719509520))) (L 274878955536))) (N (N (N (N (L 67109908) (N (L 18016598640033936) (L 35459250028560))) (L 70368744178176)) (N (L 562949986979858) (L 70643622085120))) (N (N (N (L 90071992547475476) (L 17080400)) (N (L 90212731109507076) (L 32772))) (N (L 18014399583354898) (L 576531121047634432))))) (N (L 18) (N (L 140737488356356) (N (L 22799473147117577) (N (L 27021597831331858) (L 576531670805544960)))))) (N (N (N (N (N (L 67108880) (L 537133824)) (L 274878956032)) (L 16777280)) (N (N (N (N (L 3221292048) (N (L 18014401730707472) (L 206158462992))) (L 537133824)) (N (L 562955322130448) (N (L 140740709647360) (L 618475323392)))) (N (L 22518001358143488) (N (L 18295881002385408) (L 576460855382671360))))) (N (L 67108888) (N (N (N (N (L 1099645912080) (L 17080400)) (L 537133824)) (N (L 567349140783120) (L 549755847168))) (N (L 22520197193728128) (N (L 18300272673554432) (L 9007749010587648))))))) (N (N (N (N (L 1044) (L 16810064)) (L 70368744178176)) (N (L 562949953421330) (L 70368744178176))) (N (N (N (N (L 22799473381998601) (L 288511851128455689)) (L 17592202854464)) (N (N (L 18295873486258185) (N (L 18014399583354898) (L 576531121047634432))) (L 17592186077188))) (N (L 13792273925931026) (N (L 76701932227395588) (L 2251799813718020)))))),
  (N (N (N (N (N (N (N (L 16) (L 67125760)) (N (L 524304) (N (L 34359738400) (L 158329674465792)))) (N (N (L 135299072) (L 1075904512)) (N (L 34493988864) (N (L 37849399296) (N (L 37580964864) (L 17593259853824)))))) (N (N (L 285873291657280) (L 35184372089472)) (N (L 281495377805376) (N (L 37580963856) (L 69797478656))))) (N (N (N (L 8796093022280) (L 264320)) (N (L 8796160132096) (L 8657061888))) (N (N (L 281492156579912) (L 393344)) (N (L 281492223689800) (L 18014398577000448))))) (N (N (N (N (L 17246979072) (N (L 34493988864) (L 207232241664))) (L 140737488355840)) (N (N (L 20401094656) (L 1073938432)) (N (L 281478197936128) (L 18014403878256640)))) (N (N (N (L 34426848256) (L 17601379975168)) (N (L 75498496) (L 8673839104))) (N (N (L 20468204544) (L 10200743936)) (N (L 281478265046016) (L 18014408173225984)))))) (N (N (N (N (L 34359738404) (N (L 34426848256) (L 17600843089920))) (L 18015498092429312)) (N (L 8796093022226) (N (L 2199031644196) (L 140737505198592)))) (N (N (N (L 276824100) (L 549789368832)) (N (N (N (L 37580963856) (L 69793300480)) (L 1074135168)) (N (L 4785075677823041) (L 18014399583354880)))) (N (N (N (L 281509403558976) (L 17592253169792)) (L 68753031680)) (N (N (L 5910991690793032) (L 1125899907235968)) (L 144256475320090624)))))),
  (N (N (N (N (N (N (L 28) (L 2368)) (N (N (L 532) (L 3392)) (L 2368))) (N (N (L 2097676) (L 2368)) (N (L 8389132) (L 3328)))) (N (N (N (L 540) (L 2368)) (N (L 660) (L 2368))) (N (N (N (L 131092) (L 2304)) (L 2048)) (L 19520)))) (N (N (N (N (L 652) (L 2304)) (L 278592)) (N (N (L 8519692) (L 3072)) (N (N (L 1126037354192896) (N (L 8389124) (L 16778496))) (N (L 137447407624) (L 288230376218838016))))) (N (N (L 2097180) (N (N (N (L 2097684) (L 274878169408)) (L 1108105757696)) (L 550024773888))) (N (L 8389124) (L 16778496))))) (N (N (N (N (L 65588) (L 16777280)) (N (L 72057628397666816) (N (L 72057662765793280) (L 288231475663340544)))) (N (N (L 20) (N (L 34078864) (L 402653504))) (N (N (N (L 137438953488) (L 36037593111986432)) (N (L 137438953490) (L 8813272924416))) (N (L 35184372088970) (L 36099165763143936))))) (N (N (N (L 2097164) (L 16779328)) (N (N (N (L 137447350288) (L 274877924352)) (L 1099515822080)) (N (L 9570218464509952) (L 36029905124720640)))) (N (N (N (L 131220) (L 2368)) (L 17039616)) (N (N (L 9042383626895368) (L 2322168574642176)) (L 288371113656844288)))))),
  (N (N (N (N (N (L 16) (N (L 16) (N (L 16) (L 64)))) (N (N (L 67108864) (N (L 16) (N (L 256) (L 2048)))) (N (L 67108864) (N (L 16) (L 1024))))) (N (L 16) (N (L 4) (N (L 8) (L 8192))))) (N (N (N (L 256) (N (N (L 262144) (L 8388608)) (N (L 67108864) (N (L 256) (L 16777216))))) (N (L 256) (N (L 1048576) (L 2097152)))) (N (N (L 16) (L 128)) (N (L 4) (N (L 131072) (L 33554432)))))) (N (L 4) (N (L 1) (N (L 8) (L 536870912)))))]
def H60 : List (Nat × Nat × Nat) := []
theorem lanes60 : Nat.beq (Nat.lor (badAll (algN fullN) nxN finN [⟨0, [0], 0⟩, ⟨0, [1], 1⟩, ⟨1, [0], 0⟩, ⟨1, [1], 1⟩, ⟨2, [0, 1], 1⟩] 1 [0, 1] T60) (hardN H60)) (hardN H60) = true := by decide +kernel
theorem small60 : T60.all smallT = true := by decide +kernel
def T62 : List Tri := [(N (N (N (N (N (N (N (L 846349411029055) (L 863951126565439)) (N (L 564874568634431) (N (L 881559693664831) (L 36892816884552255)))) (N (N (L 846358135279679) (L 5367551024992831)) (N (L 881559693529151) (L 36892821430522175)))) (N (N (L 846358672151647) (L 41396348043498207)) (N (L 881700353721439) (L 36892816867121375)))) (N (N (N (N (L 846358135279679) (L 5367551024992831)) (L 4808998849712383)) (N (N (L 2025053933899839) (L 41466789800481343)) (L 36400239952910463))) (N (N (N (L 883758716784703) (L 41396348043956799)) (L 41400746088435935)) (N (N (L 110058650172756031) (L 6493519651312191)) (L 36892816867170399))))) (N (N (N (N (L 848557158536287) (L 41396348043497695)) (L 5367551025123903)) (N (N (L 2025192446612575) (L 36963121453175007)) (N (L 108935106055488607) (L 36892821430589663)))) (N (N (N (L 1974474246291551) (L 36897146192040191)) (L 36892748146184767)) (N (N (L 110058806972634207) (L 41400746090008799)) (L 36892817421423167))))) (N (N (N (N (L 846358135419455) (L 5367550756688447)) (N (L 901350902964799) (N (L 108935097197118559) (L 36892821162088543)))) (N (N (L 2025053934039615) (L 41466720829477439)) (N (L 108970124001911359) (N (L 901350932186207) (L 36963185611348191))))) (N (N (N (L 1972260458177087) (N (L 108932757782103135) (L 36892821430573279))) (N (N (N (L 110096164564619327) (L 6497848977822271)) (L 41400746087911647)) (L 36892821431177791))) (N (N (L 110058789222462015) (L 5367550773465663)) (N (L 881700085424703) (N (L 108932898207417439) (N (L 74067393321750591) (L 470364281269964863)))))))),
  (N (N (N (N (N (N (L 549755813901) (N (L 25165842) (L 687194768386))) (N (N (L 549772853266) (N (L 1635926049) (L 2251971614490752))) (L 2252487018938432))) (N (N (N (L 4398071677970) (L 549822989312)) (N (L 4398071677970) (L 721554506752))) (N (N (L 9007199539953682) (L 550091424768)) (L 146367125328527433)))) (N (N (N (L 1099511758859) (N (L 1099520409618) (L 549757976578))) (N (L 25297161) (L 2251937263190016))) (N (L 1099520278534) (L 2252349574807556)))) (N (N (N (N (L 25166092) (L 137787080768)) (N (L 25297152) (N (L 25427968) (L 446945099776)))) (N (N (N (N (L 1635794980) (N (L 4503600726310922) (L 144115978349871168))) (L 335611392)) (N (L 9007202215919634) (N (L 1635794980) (L 2251971746611329)))) (N (L 4503600726310916) (N (L 9007202769567746) (L 1013880717312))))) (N (L 25165831) (N (L 595607558) (L 2252487046217728))))) (N (N (N (N (L 1649267441702) (N (L 4503599652667657) (L 146367125338980416))) (N (N (L 2748795850765) (N (L 4398071677970) (L 18313740551168))) (N (L 4506898162286607) (L 146437906389565449)))) (N (L 4398071808019) (N (L 1099537055748) (N (L 4505798675922953) (L 146648600315691017))))) (N (N (N (L 1100090441766) (L 9345920204928)) (N (L 35184934141958) (N (L 4503599652569101) (N (L 9007199548342290) (L 18015395210330112))))) (N (L 9008298783146007) (L 2252624715841537))))),
  (N (N (N (N (N (N (N (L 18) (L 144)) (L 65)) (L 131104)) (N (N (N (N (L 288) (N (L 16448) (L 65600))) (L 128)) (N (L 1040) (L 128))) (N (N (N (L 4194336) (L 2080)) (L 2097280)) (N (L 32784) (L 536871040))))) (L 9)) (N (N (N (N (L 262152) (L 16777224)) (L 131072)) (N (N (L 16392) (N (L 32784) (L 536871040))) (L 139264))) (N (N (L 1048608) (N (N (L 34078720) (L 35651584)) (N (L 34078720) (L 570425344)))) (N (L 4194308) (L 139264))))) (N (L 4) (N (L 262145) (L 16777216))))]
def H62 : List (Nat × Nat × Nat) := []
theorem lanes62 : Nat.beq (Nat.lor (badAll (algN fullN) nxN finN [⟨0, [0], 0⟩, ⟨0, [1], 1⟩, ⟨1, [0, 1], 1⟩, ⟨2, [0, 1], 1⟩] 1 [0, 1] T62) (hardN H62)) (hardN H62) = true := by decide +kernel
theorem small62 : T62.all smallT = true := by decide +kernel
end K81L
end
section
set_option Elab.async false
set_option linter.all false
set_option maxRecDepth 100000
/-! printed by gen_lanes2.py: the trees of words, table by table -/
namespace K81L
open K81M
def TC : List Tri := [(N (N (N (N (N (N (L 289972032651659294) (N (L 945245915906579390) (L 904819072343097278))) (N (L 909216981431892798) (L 328252766923276222))) (N (N (L 909252337585896254) (L 400275176589244894)) (N (L 981274747251735358) (L 909322672104672702)))) (N (N (N (N (L 981274712891998142) (N (L 981284368012442558) (L 981425072357195710))) (N (L 981275022163344318) (L 981424521527672766))) (N (N (N (N (L 981354702396948414) (L 1143509921313325054)) (L 1053437860046387646)) (N (N (L 981781313713831870) (L 1053440060311175166)) (L 981710429988798398))) (N (L 981425105501322174) (L 1053448855307337662)))) (N (N (N (L 981274884724390846) (L 927337139333740990)) (L 909322672004102654)) (N (N (N (L 981768565785263038) (L 1125497653241789886)) (L 1053440059239481278)) (N (L 981556601024822206) (N (L 981701461216213950) (L 981710395587051454))))))) (N (N (N (N (L 909181797043034942) (N (L 981275571919666110) (L 981425073422516158))) (L 909322706464422334)) (N (N (N (N (L 981354736756603838) (L 1071452636512991678)) (L 1053438135058546622)) (N (N (L 981781347540810686) (L 1053475552813595070)) (L 981710397235150782))) (N (L 981425105500724030) (L 1053449131248524734)))) (N (N (N (L 981275022129920830) (L 927372323571580414)) (L 909357890836508606)) (N (N (L 981776915130252094) (L 1053475313369094654)) (L 981389371473280958))))) (N (N (N (N (N (L 909217015774862142) (L 909322671970388478)) (N (L 981275262681701182) (L 981416000144875454))) (L 909322671970326814)) (N (N (L 990352418363424702) (N (L 981556497408596798) (L 981705996605276094))) (L 981415450380343582))) (N (N (L 981274712891988254) (L 981380266008254750)) (L 904678180218996750)))),
  (N (N (N (N (N (N (N (N (L 580964991880921214) (N (L 13519173007454462) (L 592262425585276142))) (N (L 11267356097918078) (L 583255312246921086))) (N (N (L 592306406066754942) (L 6864928679810430)) (L 592262511484606206))) (N (N (L 583290505207877886) (L 33851342079530686)) (N (N (L 592310872968008830) (L 610316421537879148)) (N (L 610246123718063230) (L 592302008020915326))))) (N (N (N (L 15770947051460798) (L 601338979971372798)) (L 6864859943294030)) (N (L 15766574808720510) (N (L 610246123701309630) (L 592302076723335358))))) (N (N (N (L 15770955658568798) (L 583290427890340974)) (L 24844069802217518)) (N (N (N (L 15841324436426942) (N (L 646274920737023102) (L 754616321687114878))) (L 610316421672096840)) (N (L 610246123650688126) (L 592302008022746206))))) (N (N (N (N (L 592310804096222302) (L 583325612246717518)) (L 601303735477866542)) (N (L 15841333092945982) (L 583294972511522878))) (N (N (L 15841333092945966) (L 601309301756268606)) (N (L 610246132291080238) (N (L 592302093902554222) (L 583294963361137742)))))) (N (N (N (N (N (N (L 581051890893062398) (L 592346074368317182)) (L 583343204565390460)) (N (L 15858933768139902) (L 583488477565441134))) (N (L 15850116296871998) (N (N (L 610325271473426686) (N (L 628357279280034942) (N (L 646582783992672510) (L 682554337631802622)))) (L 592455955194729566)))) (N (L 15841337270206494) (L 592302227046137886))) (N (N (L 592302144359628830) (N (N (N (L 646283725336090814) (L 754999028487426750)) (L 826537584309716062)) (N (L 736434874164192350) (N (L 646283716813295806) (L 754581334329004222))))) (N (L 610246084975001630) (L 610316558979432478))))),
  (N (N (N (N (N (N (L 6755674318962718) (N (L 578857412780372542) (L 115475935983319998))) (N (L 4507722802278942) (L 294986602380532734))) (N (N (L 295271375950590750) (N (L 583994337841394494) (L 295763974994313118))) (N (L 583358819852104222) (L 295623236927100236)))) (N (N (N (L 6759526936097310) (L 290558336655693228)) (N (N (L 593283084835632062) (L 336195216570891698)) (N (L 917480610176447006) (L 341963323822356918)))) (N (N (L 304771164954177566) (L 340661432266002700)) (N (L 914938264398344734) (L 340804437488704286))))) (N (N (N (N (L 6759524805391134) (L 327150066448211308)) (N (L 592447383000855070) (N (L 917234362521498142) (L 341945117455986998)))) (N (N (L 881513457095094814) (L 336195216570881356)) (N (L 917471539474014750) (N (L 593010101395137054) (L 340799971537500942))))) (N (N (N (L 33930385551270430) (L 340698815662135656)) (L 336157815445952950)) (N (N (L 917542185260298782) (L 412718481379956044)) (N (N (L 593005720377500446) (L 336160035953482002)) (L 340659233276039438)))))) (N (N (N (N (L 290486301296189630) (L 327150616199879078)) (N (N (L 611345788825514510) (N (L 914947344244421182) (L 414031830839507742))) (N (L 935319121185219102) (L 341945661813691660)))) (N (N (N (L 611306206406976030) (L 340698814050473384)) (L 336617429032540342)) (N (L 917480610428101182) (N (L 592447417310323230) (L 340799970689161754))))) (N (N (N (N (L 16545182551900702) (L 340698813513602380)) (L 354491072335876276)) (N (L 935495013249319486) (N (L 665103111599235614) (N (L 917199178417840670) (L 414031843959257886))))) (N (N (L 935556622399594814) (L 430733424801403270)) (L 340803267080757510))))),
  (N (N (N (N (L 14) (L 272662544)) (N (N (N (N (L 144396671382519932) (L 18438535124649244)) (L 18297523060376860)) (N (N (L 146093214875714606) (L 27198895725511696)) (L 18440463027642396))) (N (N (N (L 4224331731403822) (L 27480919552066576)) (L 27163986403295248)) (N (N (L 272333645098845308) (L 171596106894443804)) (L 172124147554550798))))) (N (N (N (N (L 216454265412223004) (L 18438535124779032)) (L 18297523026953500)) (N (N (L 164107613381002334) (L 27198895629172752)) (N (L 54753483802509340) (L 171596106827464728)))) (N (N (N (L 4224331739760142) (L 27480919556390928)) (N (L 55874989974553116) (L 174377602281340942))) (N (N (L 272333645111574556) (L 171596106861019160)) (L 172124147554690062))))) (N (N (N (N (N (N (N (N (L 144396697143935004) (L 27445940537819160)) (L 27445871818342672)) (N (L 36881483864016204) (L 207596324598677788))) (N (L 38002972835709998) (L 171562854921634828))) (N (L 54895877542182942) (L 172165657608290332))) (N (L 36877077223310700) (L 198584452687954188))) (N (N (N (N (N (L 180996118434352142) (L 27199445686853648)) (L 27480988875523088)) (L 27199582555373584)) (N (N (L 270996656139469948) (L 172159125567341594)) (L 207701871807266830))) (N (L 54753483840063516) (L 171596106826817560)))) (N (N (N (N (N (L 38010120738735118) (L 27199581545070608)) (L 27199582555373584)) (L 27480919585619984)) (N (L 55874989988085788) (L 174377602272821262))) (N (N (N (L 127941384379547678) (L 172159194215514130)) (L 171596106826817816)) (N (N (L 560427681800274974) (L 27199583088050192)) (N (L 632406115300229174) (L 172195205641438214))))))),
  (N (N (L 2) (L 4)) (N (N (N (N (L 60) (N (L 50430776) (N (L 6755399477838396) (L 38350965602353472)))) (N (N (N (N (L 117671736) (L 2322306014962044)) (N (L 6896549283054136) (L 38844096635991824))) (N (L 6896136966193720) (L 38913915557226384))) (N (L 6755399477838396) (L 38350965602361600)))) (N (N (N (L 72057594289685304) (L 2322306023342396)) (N (L 6896136966193208) (N (L 77827831181312824) (L 326581547896717436)))) (N (N (N (L 6896136966194748) (L 56365364145332544)) (L 54676514251514176)) (N (L 76561193701049144) (L 326510973002301756))))) (N (N (N (N (N (N (N (L 73183495001801274) (N (L 6896549283299896) (L 38844098002731386))) (L 6825905642324348)) (N (N (L 15903748605035580) (L 128985908170891584)) (N (L 77688194142896698) (N (L 78954143321227832) (L 38846295952245114))))) (N (L 6896274405392952) (L 38913915657356226))) (N (N (L 15903748575675452) (L 54676514319278400)) (N (N (N (L 77828931362849338) (N (L 6896549283054136) (L 615304849232347514))) (L 6825905633935740)) (N (L 78954151911162424) (N (L 77688193874461242) (N (L 78954143320982072) (L 615304849232609594))))))) (N (N (N (L 15973705036415548) (L 54676514319278336)) (L 56928314099409216)) (N (N (L 82331431345555226) (L 2322306006573436)) (L 326581547896447292)))) (N (N (N (L 6896137030156348) (L 56365364136673536)) (N (L 77827831113023800) (L 3026130878693692))) (N (N (N (L 112589991475085882) (L 42854706964644172)) (L 38351171744743740)) (N (L 78883362323906620) (N (L 653021946760463130) (L 326511114744807444)))))))),
  (N (N (N (N (N (N (N (L 70368744177710) (L 74450406217893090)) (L 70643622085856)) (N (N (L 72217847857693754) (L 432435449305533618)) (N (L 144328218455851034) (L 648553806665369266)))) (N (L 72058418671699004) (N (N (L 494505354625082) (L 578873905448748178)) (N (L 72216748348163096) (L 72292890577938))))) (N (N (N (L 144117112221253916) (N (L 144262247756120082) (L 576530846171040290))) (N (L 72286842212352284) (N (L 72217847857725458) (L 468473042416470562)))) (N (N (N (N (N (N (L 72551824519889018) (L 434671306199303392)) (L 578715575908582560)) (N (L 72203554206532792) (L 436935475518017184))) (N (L 144191879014024204) (N (N (L 72551826666324090) (L 434671306199303264)) (L 578715576982324872)))) (L 434671306199318696)) (N (L 144327118942163212) (N (N (N (N (L 72551824787275834) (L 434671306201400496)) (L 578715578056197280)) (L 434688899528622244)) (N (L 144187480967577604) (N (N (L 72551893238317114) (L 434671306201400336)) (L 648518657727414282)))))))) (N (N (N (L 72077110369337404) (N (N (L 144273242872397854) (L 650791586632122384)) (N (L 72222245906305028) (L 504494967486709776)))) (N (L 144328218455883820) (N (L 144332616500281644) (L 576550638453817984)))) (N (N (N (L 159978941841694) (N (L 72216748346097666) (N (L 159978943942678) (L 2904086162015268)))) (N (L 144191879011926316) (N (N (L 86023042051964942) (L 434671307273389092)) (N (L 144191879014027316) (L 583461069034735108))))) (N (L 72216748348162052) (L 578822228402307078))))) (N (N (L 216173331869597710) (N (L 216173331869630494) (L 504474351644460032))) (N (L 216173331869614086) (L 648589264841342978)))),
  (N (N (N (N (N (N (N (N (L 116) (L 2253998971294692)) (N (L 92332588722954492) (L 76561211256380388))) (N (N (L 2330974046650980) (L 4576193571623524)) (N (L 22518032782598260) (L 2254273849203300)))) (N (N (N (L 92341419712979068) (L 76984482927524)) (L 45319697788443066)) (N (L 4516828529560734) (N (L 92887292355944572) (L 72624959628939876))))) (N (N (N (N (L 2330974046650996) (L 358459453381220)) (N (L 153968405390388) (L 2322232192440900))) (N (L 6649012945082) (L 92377102818136))) (N (N (N (L 22526795053801588) (L 2535475032234500)) (L 301741193960788536)) (N (L 22522430946017426) (L 11263414439903544))))) (N (N (N (L 2265029118795868) (N (N (L 79218256642084) (L 72595429560356)) (N (L 18017184627040380) (L 2493107016228)))) (N (L 4449871601756) (L 2256225110753868))) (N (N (N (L 4434957705886) (N (L 18166165742693404) (L 88012885301332))) (L 2322187227402316)) (N (N (L 9033608606401086) (L 297521276923286074)) (N (L 4516830677172382) (L 9288695842734394)))))) (N (N (N (N (N (L 4516794035601662) (L 299850015168402186)) (L 2361768563348068)) (N (N (L 79177320366108) (L 288591043492974874)) (L 2361837358317644))) (N (N (L 147048703084724836) (L 38669850134610540)) (N (L 147110292387274782) (L 38674514532008004)))) (N (N (L 74335782667550764) (L 40604965084860462)) (N (N (L 147009171676987468) (L 43138256795734092)) (L 110903340518608934))))) (N (N (N (L 36028797287399454) (N (L 108095221912698894) (L 108086442739503160))) (L 180146184252293134)) (L 108088590080147462))),
  (N (N (N (N (N (N (N (L 62) (N (L 1237185560636) (L 141901742718))) (N (L 137539715134) (L 141834945210))) (N (N (L 275112886334) (L 70717743932082)) (N (L 279374823486) (N (L 141976821399612) (L 143916057150))))) (N (L 137673932844) (N (L 288232669276) (L 70713583108120)))) (N (N (N (L 137673932892) (L 554218586938)) (L 70716670247458)) (N (N (N (L 279240081470) (N (L 9149173929312316) (L 4539814166590))) (L 71194619445272)) (N (L 140883618006108) (N (L 9007478629040190) (N (L 141976687837244) (L 72057737957261374))))))) (N (N (N (N (L 275112886364) (N (L 140879423668286) (L 137674219704))) (L 555225350690)) (N (N (L 141019010138140) (L 895131615256)) (L 1408064326647852))) (N (N (N (N (L 141935247422) (L 551064477880)) (L 70439246291224)) (L 550930260512)) (L 70438705209362)))) (N (N (N (L 206292713502) (N (N (N (L 141910081601598) (L 549856583856)) (L 71056106750232)) (N (N (N (L 10067537756220) (L 1126450910642736)) (L 692664246322)) (N (L 141910081601598) (L 4790022482272312))))) (N (N (L 141154167357484) (L 1126519556571684)) (N (L 1511929151532) (N (L 141162891444254) (L 70781295951896))))) (N (N (L 481170554902) (L 757021548562)) (N (N (N (L 141184366379036) (L 70918638460952)) (L 1126935027687462)) (N (L 414464475182) (N (N (L 141083233288254) (L 36029833213485106)) (N (L 491773820986) (L 108157378276360194)))))))),
  (N (N (N (N (N (N (N (N (L 562951027163224) (N (L 567348033486904) (L 281483575149240))) (L 1125901022568992)) (N (N (L 2199023255672) (L 1128098938528320)) (N (L 562949953552504) (N (L 567348033486904) (L 281474985476664))))) (N (L 16777304) (N (L 2181038136) (L 35185487814688)))) (N (L 1099528405048) (N (N (N (L 567347999932536) (N (L 567348008321080) (L 290271078236216))) (L 1134696041840672)) (N (L 562952100906040) (N (L 564049481826428) (N (L 562949961941048) (L 281475523117112))))))) (N (N (N (L 16777336) (L 25198656)) (N (L 1099528536152) (N (L 568447561891898) (N (L 562952117683292) (N (L 562949987106872) (L 18331058034475040)))))) (N (N (N (L 2181038136) (L 17593302810656)) (N (L 568447561891896) (L 282584194007096))) (N (L 2164260952) (N (L 1101709443130) (N (L 2164260956) (N (L 2181038136) (N (L 1101675888730) (L 4574038189965400))))))))) (N (N (N (N (L 8796109799544) (L 8796118229568)) (N (L 5497574916184) (L 291371680383064))) (N (L 4400244326456) (N (L 5497574916220) (N (L 4400227549244) (N (L 4400210772088) (L 44049209851968)))))) (N (N (L 2199023255596) (N (L 5497574916216) (N (L 4398080065598) (L 7907704848810016)))) (N (L 564051612532780) (N (L 564049465049180) (N (L 564049465049150) (N (L 564051612532828) (L 27303622496747520)))))))) (N (L 6) (N (L 1099511627790) (L 72339069014638594)))),
  (N (N (N (L 2) (L 8)) (L 8)) (N (N (N (N (N (N (N (L 73014444504) (L 69256358944)) (N (L 755981877648) (L 281547993810872))) (N (L 755982925904) (N (L 844433660051672) (L 103616096288)))) (N (N (L 1048308089504) (L 285873593689120)) (N (N (L 844430365950440) (L 4503703243466784)) (N (L 758133555472) (L 281479338828200))))) (N (N (N (L 1030860832848) (L 286973071992872)) (L 285873593657376)) (N (N (N (L 844493651181784) (L 4504767892174880)) (L 4508066427177000)) (N (L 758130409552) (L 18296977361764456))))) (N (N (N (N (L 1035154752160) (L 286973071762464)) (L 286973105285152)) (N (N (L 571749335302888) (L 4521226710033440)) (N (L 70586780877520) (L 287007433700384)))) (N (N (N (L 844437882143448) (L 4503668883989536)) (L 4785143893993504)) (N (L 484329390352) (L 285880573002024))))) (N (N (N (N (L 1035088167328) (L 286973105317888)) (N (L 36600551857209616) (N (L 70858643145344) (L 286973105415176)))) (N (N (L 571746115125672) (N (L 71124727103760) (L 9017099223075112))) (N (N (L 106034154176608) (L 285873057040392)) (N (L 571746119319600) (L 35257488769120))))) (N (N (N (N (L 844429292733160) (L 4503668883727392)) (L 4785143894255648)) (N (L 209447289168) (N (L 844436741292696) (L 4503703245562912)))) (N (N (N (L 1043744162496) (L 286973071991816)) (L 285873593657344)) (N (L 844426071507224) (N (L 217969590928) (L 144396697949185032)))))))),
  (N (N (N (N (N (N (L 30) (L 576460752303425864)) (L 18049582881573184)) (N (L 18014398509486612) (N (L 70368811301392) (L 4503633987242312)))) (N (N (N (L 2322168557890072) (L 246290604763464)) (L 2251799847386432)) (L 18014398543037250))) (N (N (N (N (L 2322168557877272) (N (L 2322168625525776) (N (L 38351034297378836) (L 18225539118671936)))) (L 2251799847386368)) (N (N (N (N (L 211106232821808) (L 2322168558037056)) (L 175921894143042)) (N (N (L 2322237281560624) (L 18225539103991808)) (N (L 211174956230676) (L 11329402191357952)))) (N (L 38350965644490768) (L 18225539104022536)))) (N (N (N (N (N (N (L 36028797321220120) (L 18014402838040648)) (L 70368744310848)) (N (L 70437463939604) (L 18084904709524032))) (N (L 140737556018192) (N (N (L 36030102689288216) (L 18014437197779016)) (L 9077602375567424)))) (L 18049582915262720)) (N (N (L 2322237277878296) (L 246324966629384)) (N (N (N (N (L 352187846680) (L 178155279127624)) (L 70407399049280)) (L 35220913000514)) (N (L 140806279164944) (N (N (L 13262863208472) (L 178155279127624)) (N (L 140806212056064) (L 6734550695944))))))))) (N (N (N (N (L 211106232537110) (N (N (L 2533274790409240) (L 457396870853696)) (L 2462906079904448))) (L 527765581465856)) (N (L 492581276359168) (N (L 211106299655184) (N (L 1337074859128836) (L 2463043502088192))))) (N (N (N (L 38350965576852490) (N (L 38491703065196560) (N (L 38562071876477968) (L 198334339824616512)))) (N (L 36239903251772432) (L 614811717913818112))) (L 20442120217165824)))),
  (N (N (N (L 2) (L 136)) (N (N (N (L 1952) (L 139840)) (N (L 280096) (L 4398046536224))) (L 131088))) (N (N (N (N (L 896) (L 141824)) (N (N (L 561696) (L 2147557984)) (L 4398046536192))) (N (N (N (L 2251799814768160) (L 33628768)) (N (L 4295001632) (L 274877948448))) (L 4398046536224))) (N (N (N (N (N (N (L 1703936) (L 33620224)) (L 2181038216)) (N (L 8804750065936) (N (L 2251868533686304) (L 18016597566292064)))) (N (N (N (N (L 4398113620512) (L 141012366336576)) (L 205408)) (L 1407374883627584)) (N (N (L 10134198673735712) (L 2181038400)) (L 18020995612803136)))) (N (N (N (N (L 4294967840) (L 211381110448736)) (L 1407374883627584)) (N (N (L 2251868533195296) (L 18016597532811872)) (N (L 36028934457951776) (L 1125934266655328)))) (N (N (N (L 2814749768679456) (L 4398088454240)) (L 2147484352)) (N (L 36028934457918240) (L 1125899924144672))))) (N (N (N (N (L 8796093022720) (N (L 2251799813707296) (L 18014402804474400))) (N (L 549755852288) (L 18014407099458048))) (N (N (L 549756371456) (L 18014400657039872)) (L 4398046536224))) (N (N (N (N (L 2251800351080448) (L 18014398551425120)) (L 18014400690585600)) (L 18020997735120896)) (N (N (L 36028818493800960) (L 1196268651031040)) (N (N (L 218424650647474176) (L 18016597566292064)) (L 18014535981990400)))))))),
  (N (N (N (N (N (N (N (L 35184372088878) (L 70369012679168)) (L 35184372154944)) (N (L 549755945480) (N (L 274878040588) (L 1099511693840)))) (L 274877973008)) (N (L 131592) (N (N (L 550829818380) (L 35460323738112)) (L 274877972996)))) (N (N (N (L 537128) (L 1073750668)) (L 274877915674)) (N (L 139786) (L 91648)))) (N (N (N (N (N (N (N (L 105553118887944) (N (L 35184374710314) (L 70369562083840))) (L 36284152152586)) (N (N (L 1572956) (L 275146347072)) (N (L 279173529608) (N (L 35184374710314) (L 4504158795203072))))) (N (L 549756338186) (N (L 70918500520488) (L 36284152152588)))) (N (L 549755944974) (N (N (N (L 528392) (N (L 279173398572) (L 940573200))) (L 36284957459082)) (N (L 34078762) (N (L 9007749010685960) (N (L 279173138444) (L 72076320095601156))))))) (N (N (L 549756600332) (N (N (L 549757403656) (L 36284152152074)) (N (L 35734127902730) (N (L 2753074827784) (N (L 824634245164) (L 36284958507664)))))) (N (N (L 35734130262540) (L 106927505801740)) (N (L 73121818476554) (N (L 70918499996168) (N (L 73117523378188) (N (L 70918500256264) (L 36558761623564)))))))) (N (L 393218) (N (N (N (L 540680) (L 1073742336)) (L 1374389567492)) (N (L 131086) (N (L 2199023387136) (L 38284994879225856))))))),
  (N (N (N (N (N (L 14) (L 17592186052768)) (N (N (L 70368744276032) (L 562949963907104)) (L 34359746596))) (N (N (N (N (L 35218731974736) (L 281509337497632)) (L 2105472)) (N (L 1125902071119936) (L 1125936416161928))) (N (L 70437463687236) (L 563224839725056)))) (N (N (N (N (N (N (N (L 35184372236352) (L 281509337497632)) (L 2105504)) (L 562949961812000)) (N (L 2251872828129344) (L 2542662615072))) (N (L 35184372105216) (N (L 70437463687232) (L 563224839716864)))) (N (N (N (N (N (L 2251872861683776) (L 9007491580952608)) (L 281509605933088)) (L 562950230245408)) (N (N (L 1650374737984) (L 292326211616)) (N (L 1649854644288) (L 275146342432)))) (N (N (N (L 1125899923685440) (L 281509339594752)) (L 562949961811968)) (N (L 1649804345408) (L 3024739139584))))) (N (N (N (L 1125902071119880) (L 281509337497728)) (L 562949961818112)) (N (N (N (L 549823053888) (L 9007474142085152)) (L 292328308736)) (N (L 1653562425352) (N (N (L 1650341216260) (L 2491349475328)) (L 2474974904368))))))) (N (N (N (N (L 52776558149662) (N (L 68719493186) (L 19894288523296))) (L 18014398509490304)) (N (N (N (N (L 1125934283489616) (L 281509337497632)) (L 562949963915392)) (N (L 1649284235328) (L 3335044202504))) (L 1143526452625536))) (N (L 70368744194050) (N (L 1143560812363778) (N (L 2252418288975874) (N (L 19241453486082) (N (L 549755813890) (L 153140254394548224)))))))),
  (N (N (N (N (N (N (N (N (L 84) (N (L 21990232588448) (L 74766790738560))) (N (L 17592186339392) (L 70368811336000))) (N (N (L 8796093546580) (N (L 21990233636896) (L 145135535964672))) (N (L 134774868) (L 4505798650646592)))) (N (N (L 43982612594832) (N (L 2269396294729792) (L 70373106303232))) (L 145135534916608))) (N (N (N (N (L 35184372351056) (N (L 17592320294944) (L 70368878445216))) (L 140737489535488)) (N (N (L 8864812761156) (N (N (L 35184640524368) (L 1196268651151424)) (L 140737660322312))) (L 9007199264309760))) (N (N (N (L 2269396294696976) (L 351848017969152)) (L 1266637396443136)) (L 1125900582158336)))) (N (N (N (N (L 35184372088986) (N (L 17592186306640) (L 70368811548944))) (L 140742320194560)) (N (N (N (L 17592186044492) (L 72567771627780)) (N (N (L 35184506306696) (L 4573968908419200)) (L 70660869062916))) (L 145170431476736))) (N (N (L 8800388513800) (L 1125904742875136)) (L 2216270495744)))) (N (N (N (N (N (L 26388279066672) (L 1196268651037344)) (N (L 26388279328800) (L 79164904571520))) (N (L 4399120285712) (N (N (L 52780853624840) (L 142941347644416)) (L 1125917087055904)))) (N (N (L 8796227240004) (N (L 17592454479906) (L 36169534775755266))) (N (L 4398180761606) (N (L 562952503558146) (L 37154697462743050))))) (L 36035394625601538))) (N (N (L 14) (L 36030996579090440)) (L 108088590080147456))),
  (N (N (L 2) (L 4)) (N (N (N (N (N (L 56) (L 132224)) (N (N (L 549756864640) (L 70368752615936)) (N (L 4295229488) (L 17179935872)))) (N (N (N (L 1099511631136) (N (L 141012383039512) (L 2181106880))) (N (L 140737488617520) (L 2147550240))) (N (L 4294967568) (N (L 34360003840) (L 68727907360))))) (N (N (N (N (N (L 549756338432) (L 70368811287040)) (N (L 4294967592) (L 2251868600795264))) (N (N (L 549756338192) (L 70368811815936)) (N (L 38655232256) (L 17247010816)))) (N (N (N (L 8858370096) (L 70369281049728)) (N (L 34493958400) (L 69524816384))) (N (L 4297326592) (L 1125919238422528)))) (N (N (N (L 140737488355376) (L 35184372089856)) (L 70368744308736)) (N (N (L 9007233615791104) (L 1161103614672896)) (N (L 140771865133104) (L 281492156908544)))))) (N (N (N (N (N (N (N (N (L 4947802325138) (L 70368744309252)) (L 1161084278932100)) (L 67241476)) (L 70368752697348)) (N (L 4294967592) (L 2251868533294082))) (L 2214724612)) (N (N (L 4295491600) (L 17247633408)) (N (L 279172874250) (N (L 34359738648) (L 2251868533293058))))) (N (L 549755813896) (N (N (N (L 8590721058) (L 70370958771204)) (L 1231470203109380)) (N (L 4294967320) (N (L 309237647370) (N (L 34359738392) (L 36028934457984006))))))))),
  (N (N (N (N (N (N (N (L 8589934642) (N (N (L 17592186175568) (L 17600775979584)) (L 35253091566592))) (N (L 17180131344) (L 8598323840))) (N (N (L 4398046773392) (L 4398054900352)) (L 10737419328))) (N (N (L 131080) (N (L 17196646448) (L 1103807647744))) (N (N (L 25769807904) (L 140806208884736)) (L 8594259976)))) (N (N (N (L 8796093153376) (N (L 8796093284368) (N (L 8796093546760) (L 17592190256128)))) (N (L 8796093155344) (L 17592187097152))) (N (N (L 17592186699784) (N (L 8796093292560) (N (L 8796093546500) (N (L 8796093743104) (L 17592220647432))))) (N (L 198664) (L 1179656))))) (N (N (L 262154) (N (L 17563652) (N (L 8797183672320) (L 8859419648)))) (N (N (N (L 70385924046928) (L 8590987328)) (N (N (N (L 8796093546784) (L 17660910764032)) (L 17867076534272)) (N (L 8813289668608) (L 141081354174464)))) (L 1108101562370)))) (N (N (N (N (L 17592186568752) (L 17592190243840)) (N (L 8796093808644) (L 17592198660096))) (L 4406636445706)) (N (N (L 4415226380294) (N (L 8796629893124) (N (L 79165910941700) (L 17600777027586)))) (L 1108101693440)))),
  (N (N (N (L 2) (L 256)) (N (N (N (N (L 512) (L 524288)) (L 8)) (N (L 32768) (L 524288))) (L 512))) (N (N (N (N (L 16) (N (L 65536) (L 1048576))) (L 256)) (N (N (L 1048576) (L 4194304)) (N (N (N (L 16384) (L 4096)) (L 128)) (N (L 16777216) (L 8388608))))) (N (N (N (L 32768) (L 524288)) (L 8192)) (N (N (N (L 8388608) (L 4194304)) (L 262144)) (L 4194304)))))]
def HC : List (Nat × Nat × Nat) := []
theorem lanesC : Nat.beq (Nat.lor (badAll (algN fullN) nxN finN [⟨0, [0], 1⟩, ⟨1, [1], 2⟩, ⟨2, [2], 3⟩] 3 [0, 1, 2, 3] TC) (hardN HC)) (hardN HC) = true := by decide +kernel
theorem smallC : TC.all smallT = true := by decide +kernel
end K81L
end
section
set_option Elab.async false
set_option linter.all false
/-! Few residuals by a machine that the standings are mapped to. -/
namespace K81L
open K81M
inductive TrD where
  | ld (i d : Nat)
  | nd (d : Nat) (a b : TrD)
def TrD.lab : TrD → Nat
  | .ld _ d => d
  | .nd d _ _ => d
noncomputable def TrD.nodes (T : TrD) : List Nat → List (List Nat × Nat) :=
  TrD.rec (motive := fun _ => List Nat → List (List Nat × Nat)) (fun _ _ _ => []) (fun d _ _ ia ib p => (p, d) :: (ia (0 :: p) ++ ib (1 :: p))) T
def nxD (dl : List (List Nat)) (d l : Nat) : Nat := (dl.getD d []).getD l 0
section
variable (nx : Nat → Nat → Nat → Nat → Bool) (fin : Nat → Nat → Bool) (sl : List Slot) (n : Nat) (qs en : List Nat) (dl : List (List Nat)) (F : List Nat)
noncomputable def okD (all : List (List Nat × Nat)) (T : TrD) : List Nat → Bool :=
  TrD.rec (motive := fun _ => List Nat → Bool)
    (fun i d p => cond (clW AB nx fin sl n qs p) false (match all[i]? with
      | some c => cond (Nat.beq c.2 d) (cond (neW AB nx fin sl n qs p c.1) false true) false
      | none => false))
    (fun d a b ia ib p => cond (clW AB nx fin sl n qs p) false (cond (Nat.beq (cond (orM AB (fun q => Ew AB nx fin sl n p n q) en) 1 0) (F.getD d 0)) (cond (Nat.beq a.lab (nxD dl d 0)) (cond (Nat.beq b.lab (nxD dl d 1)) (cond (ia (0 :: p)) (ib (1 :: p)) false) false) false) false)) T
noncomputable def okR (T : TrD) : Bool := okD nx fin sl n qs en dl F (T.nodes []) T []
variable {nx fin sl n qs en dl F}
theorem cond_t {a b : Bool} (h : cond a b false = true) : a = true ∧ b = true := by
  cases a
  · cases h
  · exact ⟨rfl, h⟩
theorem cond_f {a b : Bool} (h : cond a false b = true) : a = false ∧ b = true := by
  cases a
  · exact ⟨rfl, h⟩
  · cases h
/-- as a node, or with the standing of one -/
def Okc (nx : Nat → Nat → Nat → Nat → Bool) (fin : Nat → Nat → Bool) (sl : List Slot) (n : Nat) (qs : List Nat) (all nodes : List (List Nat × Nat)) (w : List Nat) (d : Nat) : Prop := Ex nx fin sl n w ∧ ((w, d) ∈ nodes ∨ ∃ c ∈ all, c.2 = d ∧ neW AB nx fin sl n qs w c.1 = false)
theorem treeD_ok (hq : ∀ s ∈ sl, s.t ∈ qs) {all : List (List Nat × Nat)} : ∀ (T : TrD) (p : List Nat), (clW AB nx fin sl n qs p = false → Ex nx fin sl n p) → okD nx fin sl n qs en dl F all T p = true →
    Okc nx fin sl n qs all (T.nodes p) p T.lab ∧ ∀ c ∈ T.nodes p, Ex nx fin sl n c.1 ∧ Nat.beq (cond (orM AB (fun q => Ew AB nx fin sl n c.1 n q) en) 1 0) (F.getD c.2 0) = true ∧ ∀ l, l < 2 → Okc nx fin sl n qs all (T.nodes p) (l :: c.1) (nxD dl c.2 l) := by
  intro T
  induction T with
  | ld i d =>
    intro p hx hb
    have hb : cond (clW AB nx fin sl n qs p) false (match all[i]? with
      | some c => cond (Nat.beq c.2 d) (cond (neW AB nx fin sl n qs p c.1) false true) false
      | none => false) = true := hb
    obtain ⟨h1, h2⟩ := cond_f hb
    cases e : all[i]? with
    | none => rw [e] at h2; cases h2
    | some c =>
      rw [e] at h2
      obtain ⟨h3, h4⟩ := cond_t h2
      exact ⟨⟨hx h1, .inr ⟨c, List.mem_of_getElem? e, Nat.eq_of_beq_eq_true h3, (cond_f h4).1⟩⟩, fun c hc => by cases hc⟩
  | nd d a b ia ib =>
    intro p hx hb
    have hb : cond (clW AB nx fin sl n qs p) false (cond (Nat.beq (cond (orM AB (fun q => Ew AB nx fin sl n p n q) en) 1 0) (F.getD d 0)) (cond (Nat.beq a.lab (nxD dl d 0)) (cond (Nat.beq b.lab (nxD dl d 1)) (cond (okD nx fin sl n qs en dl F all a (0 :: p)) (okD nx fin sl n qs en dl F all b (1 :: p)) false) false) false) false) = true := hb
    obtain ⟨h1, hb⟩ := cond_f hb
    obtain ⟨hF, hb⟩ := cond_t hb
    obtain ⟨hA, hb⟩ := cond_t hb
    obtain ⟨hB, hb⟩ := cond_t hb
    obtain ⟨ha, hb⟩ := cond_t hb
    have X := hx h1
    obtain ⟨a1, a2⟩ := ia (0 :: p) (ex_cons hq X) ha
    obtain ⟨b1, b2⟩ := ib (1 :: p) (ex_cons hq X) hb
    rw [Nat.eq_of_beq_eq_true hA] at a1
    rw [Nat.eq_of_beq_eq_true hB] at b1
    have en' : (TrD.nd d a b).nodes p = (p, d) :: (a.nodes (0 :: p) ++ b.nodes (1 :: p)) := rfl
    rw [en']
    have upA : ∀ {w d'}, Okc nx fin sl n qs all (a.nodes (0 :: p)) w d' → Okc nx fin sl n qs all ((p, d) :: (a.nodes (0 :: p) ++ b.nodes (1 :: p))) w d' := fun h => ⟨h.1, h.2.imp (fun z => List.mem_cons_of_mem _ (List.mem_append_left _ z)) id⟩
    have upB : ∀ {w d'}, Okc nx fin sl n qs all (b.nodes (1 :: p)) w d' → Okc nx fin sl n qs all ((p, d) :: (a.nodes (0 :: p) ++ b.nodes (1 :: p))) w d' := fun h => ⟨h.1, h.2.imp (fun z => List.mem_cons_of_mem _ (List.mem_append_right _ z)) id⟩
    refine ⟨⟨X, .inl List.mem_cons_self⟩, fun c hc => ?_⟩
    rcases List.mem_cons.mp hc with rfl | hc
    · refine ⟨X, hF, fun l hl => ?_⟩
      have e : l = 0 ∨ l = 1 := by omega
      rcases e with rfl | rfl
      · exact upA a1
      · exact upB b1
    · rcases List.mem_append.mp hc with hc | hc
      · obtain ⟨h4, h6, h5⟩ := a2 c hc
        exact ⟨h4, h6, fun l hl => upA (h5 l hl)⟩
      · obtain ⟨h4, h6, h5⟩ := b2 c hc
        exact ⟨h4, h6, fun l hl => upB (h5 l hl)⟩
def dfaL (dl : List (List Nat)) (F : List Nat) (d : Nat) : Lang := clip 2 fun r => Nat.beq (F.getD (r.foldl (nxD dl) d) 0) 1
open Classical in
theorem few_dfa (h0 : 0 ∈ qs) (hq : ∀ s ∈ sl, s.t ∈ qs) {d0 : Nat} {a b : TrD} (hd : d0 < dl.length) (hdl : ∀ d, d < dl.length → ∀ l, l < 2 → nxD dl d l < dl.length) (h60 : dl.length ≤ 60) (hF : ∀ d, F.getD d 0 ≤ 1) (hb : okR nx fin sl n qs en dl F (.nd d0 a b) = true) : Few 2 (lgN (nfL nx fin sl) en) := by
  obtain ⟨_, key⟩ := treeD_ok hq (.nd d0 a b) [] (ex_nil hq) hb
  have nxt : ∀ c ∈ (TrD.nd d0 a b).nodes [], ∀ l, l < 2 → ∃ c' ∈ (TrD.nd d0 a b).nodes [], c'.2 = nxD dl c.2 l ∧ (nfL nx fin sl).stp ((nfL nx fin sl).SW c.1.reverse) l = (nfL nx fin sl).SW c'.1.reverse := fun c hc l hl => by
    obtain ⟨X, h | ⟨c', h1, h2, h3⟩⟩ := (key c hc).2.2 l hl
    · exact ⟨_, h, rfl, by rw [List.reverse_cons, Nf.SW_snoc]⟩
    · have e := same_SW h0 hq X (key c' h1).1 h3
      rw [List.reverse_cons, Nf.SW_snoc] at e
      exact ⟨c', h1, h2, e⟩
  have fin' : ∀ c ∈ (TrD.nd d0 a b).nodes [], (accK en ((nfL nx fin sl).SW c.1.reverse) ↔ F.getD c.2 0 = 1) := fun c hc => by
    obtain ⟨X, h, _⟩ := key c hc
    have e := Nat.eq_of_beq_eq_true h
    have hacc : accK en ((nfL nx fin sl).SW c.1.reverse) ↔ orM AB (fun q => Ew AB nx fin sl n c.1 n q) en = true := by
      rw [orM_iff]
      constructor
      · rintro ⟨q, h1, h2⟩; exact ⟨q, h1, (X.ov q).mpr h2⟩
      · rintro ⟨q, h1, h2⟩; exact ⟨q, h1, (X.ov q).mp h2⟩
    rw [hacc, ← e]
    cases orM AB (fun q => Ew AB nx fin sl n c.1 n q) en with
    | true => exact ⟨fun _ => rfl, fun _ => rfl⟩
    | false => exact ⟨fun z => (by cases z), fun z => (by cases z)⟩
  have run : ∀ (r : List Nat), (∀ l ∈ r, l < 2) → ∀ c ∈ (TrD.nd d0 a b).nodes [], (accK en (r.foldl (nfL nx fin sl).stp ((nfL nx fin sl).SW c.1.reverse)) ↔ F.getD (r.foldl (nxD dl) c.2) 0 = 1) := by
    intro r
    induction r with
    | nil => exact fun _ c hc => fin' c hc
    | cons l r ih =>
      intro hr c hc
      obtain ⟨c', h1, h2, h3⟩ := nxt c hc l (hr l List.mem_cons_self)
      rw [List.foldl_cons, List.foldl_cons, h3, ← h2]
      exact ih (fun x hx => hr x (List.mem_cons_of_mem _ hx)) c' h1
  have eL : lgN (nfL nx fin sl) en = dfaL dl F d0 := by
    funext w
    show (w.all (fun l => decide (l < 2)) && _) = (w.all (fun l => decide (l < 2)) && _)
    cases hw : w.all (fun l => decide (l < 2)) with
    | false => rfl
    | true =>
      have hw' : ∀ l ∈ w, l < 2 := fun l hl => of_decide_eq_true (List.all_eq_true.mp hw l hl)
      have k := run w hw' ([], d0) List.mem_cons_self
      rw [Bool.true_and, Bool.true_and, Bool.eq_iff_iff]
      constructor
      · intro z
        have z := of_decide_eq_true z
        show Nat.beq (F.getD (w.foldl (nxD dl) d0) 0) 1 = true
        rw [k.mp z] <;> rfl
      · intro z
        exact decide_eq_true (k.mpr (Nat.eq_of_beq_eq_true z))
  rw [eL]
  refine ⟨(List.range dl.length).map (dfaL dl F), by rw [List.length_map, List.length_range]; exact h60, List.mem_map.mpr ⟨d0, List.mem_range.mpr hd, rfl⟩, fun M hM l hl => ?_⟩
  obtain ⟨d, hd', rfl⟩ := List.mem_map.mp hM
  have hd' := List.mem_range.mp hd'
  refine List.mem_map.mpr ⟨nxD dl d l, List.mem_range.mpr (hdl d hd' l hl), ?_⟩
  show _ = der l (clip 2 _)
  rw [clip_der _ hl] <;> rfl
end
/-- the hard lanes with one such machine -/
noncomputable def okH (dl : List (List Nat)) (F : List Nat) (T : TrD) (ls : List (List Slot × (Nat × Nat × Nat) × List Nat)) : Bool :=
  ls.all fun x => okR (fun p l a b => knx (place3 x.2.1.1 x.2.1.2.1 x.2.1.2.2 p) l a b) (fun p a => kfin (place3 x.2.1.1 x.2.1.2.1 x.2.1.2.2 p) a) x.1 1 [0, 1] x.2.2 dl F T
def dlOk (dl : List (List Nat)) (F : List Nat) (d0 : Nat) : Bool := Nat.blt d0 dl.length && Nat.ble dl.length 60 && dl.all (fun r => Nat.blt (r.getD 0 0) dl.length && Nat.blt (r.getD 1 0) dl.length) && F.all fun x => Nat.ble x 1
theorem few_hard {dl : List (List Nat)} {F : List Nat} {d0 : Nat} {a b : TrD} {ls : List (List Slot × (Nat × Nat × Nat) × List Nat)} (h : okH dl F (.nd d0 a b) ls = true) (hd : dlOk dl F d0 = true) {sl : List Slot} {t0 t1 t2 : Nat} {en : List Nat} (hm : (sl, (t0, t1, t2), en) ∈ ls) (hq : ∀ s ∈ sl, s.t ∈ [0, 1]) :
    Few 2 (lgN (nfL (fun p l a b => knx (place3 t0 t1 t2 p) l a b) (fun p a => kfin (place3 t0 t1 t2 p) a) sl) en) := by
  have hb := List.all_eq_true.mp h _ hm
  unfold dlOk at hd
  simp only [Bool.and_eq_true] at hd
  obtain ⟨⟨⟨h1, h2⟩, h3⟩, h4⟩ := hd
  have h1 : d0 < dl.length := Nat.blt_eq.mp h1
  refine few_dfa (qs := [0, 1]) List.mem_cons_self hq h1 (fun d hd' l hl => ?_) (Nat.le_of_ble_eq_true h2) (fun d => ?_) hb
  · have hr := List.all_eq_true.mp h3 dl[d] (List.getElem_mem hd')
    rw [Bool.and_eq_true] at hr
    have e : dl.getD d [] = dl[d] := by rw [List.getD_eq_getElem?_getD, List.getElem?_eq_getElem hd'] <;> rfl
    unfold nxD
    rw [e]
    have el : l = 0 ∨ l = 1 := by omega
    rcases el with rfl | rfl
    · exact Nat.blt_eq.mp hr.1
    · exact Nat.blt_eq.mp hr.2
  · rw [List.getD_eq_getElem?_getD]
    cases e : F[d]? with
    | none => exact Nat.zero_le _
    | some x => exact Nat.le_of_ble_eq_true (List.all_eq_true.mp h4 x (List.mem_of_getElem? e))
end K81L
end
section
set_option Elab.async false
set_option linter.all false
set_option maxRecDepth 100000
/-! printed by gen_hard.py: the hard lanes -/
namespace K81L
open K81M
abbrev LD (i d : Nat) : TrD := .ld i d
abbrev ND (d : Nat) (a b : TrD) : TrD := .nd d a b
def Q0 : TrD := (ND 0 (ND 1 (ND 3 (LD 0 0) (ND 7 (ND 2 (ND 5 (ND 7 (LD 4 2) (LD 10 9)) (ND 7 (LD 4 2) (LD 10 9))) (ND 6 (ND 9 (LD 11 10) (LD 13 11)) (LD 10 9))) (ND 9 (ND 10 (ND 6 (LD 9 9) (LD 10 9)) (LD 8 6)) (ND 11 (ND 11 (LD 14 11) (LD 13 11)) (LD 13 11))))) (ND 4 (ND 7 (ND 2 (ND 5 (LD 16 7) (ND 7 (ND 2 (ND 5 (ND 7 (LD 20 2) (LD 41 9)) (LD 19 7)) (LD 8 6)) (LD 41 9))) (ND 6 (ND 9 (ND 10 (ND 6 (LD 24 9) (LD 10 9)) (LD 23 6)) (LD 67 11)) (LD 10 9))) (ND 9 (LD 70 10) (LD 73 11))) (ND 8 (LD 17 2) (ND 2 (ND 5 (ND 7 (ND 2 (LD 30 5) (LD 48 6)) (LD 27 9)) (ND 7 (ND 2 (ND 5 (ND 7 (LD 34 2) (LD 41 9)) (LD 33 7)) (LD 57 6)) (LD 41 9))) (ND 6 (ND 9 (ND 10 (ND 6 (LD 38 9) (LD 41 9)) (LD 48 6)) (LD 67 11)) (ND 9 (ND 10 (ND 6 (LD 58 9) (LD 41 9)) (LD 57 6)) (LD 13 11))))))) (ND 2 (ND 5 (ND 7 (ND 2 (LD 45 5) (ND 6 (LD 38 9) (LD 41 9))) (ND 9 (ND 10 (ND 6 (ND 9 (LD 50 10) (LD 73 11)) (LD 49 9)) (LD 8 6)) (LD 73 11))) (ND 7 (ND 2 (ND 5 (ND 7 (LD 54 2) (LD 10 9)) (LD 53 7)) (ND 6 (ND 9 (LD 42 10) (LD 13 11)) (LD 41 9))) (LD 10 9))) (ND 6 (ND 9 (ND 10 (ND 6 (LD 60 9) (LD 27 9)) (LD 48 6)) (ND 11 (ND 11 (ND 11 (ND 11 (LD 64 11) (LD 73 11)) (LD 63 11)) (ND 11 (ND 11 (LD 74 11) (LD 13 11)) (LD 73 11))) (LD 73 11))) (ND 9 (ND 10 (ND 6 (ND 9 (LD 70 10) (LD 73 11)) (LD 27 9)) (LD 57 6)) (ND 11 (ND 11 (ND 11 (LD 68 11) (LD 73 11)) (LD 67 11)) (LD 13 11))))))
def P0 : List (List Slot × (Nat × Nat × Nat) × List Nat) := [([⟨0, [0, 1], 0⟩, ⟨1, [1], 0⟩, ⟨1, [0], 1⟩, ⟨2, [0], 0⟩, ⟨2, [1], 1⟩], (0, 3, 26), [0]), ([⟨0, [1], 0⟩, ⟨0, [0], 1⟩, ⟨1, [1], 0⟩, ⟨1, [0], 1⟩, ⟨2, [0], 0⟩, ⟨2, [1], 1⟩], (0, 3, 26), [0]), ([⟨0, [1], 0⟩, ⟨0, [0], 1⟩, ⟨1, [1], 0⟩, ⟨1, [0], 1⟩, ⟨2, [0], 0⟩, ⟨2, [1], 1⟩], (3, 0, 26), [0]), ([⟨0, [1], 0⟩, ⟨0, [0], 1⟩, ⟨1, [1], 0⟩, ⟨1, [0], 1⟩, ⟨2, [0], 0⟩, ⟨2, [1], 1⟩], (3, 3, 26), [0]), ([⟨0, [1], 0⟩, ⟨0, [0], 1⟩, ⟨1, [0], 0⟩, ⟨1, [1], 1⟩, ⟨2, [0], 0⟩, ⟨2, [1], 1⟩], (3, 0, 26), [0]), ([⟨0, [1], 0⟩, ⟨0, [0], 1⟩, ⟨1, [0], 0⟩, ⟨1, [1], 1⟩, ⟨2, [0], 0⟩, ⟨2, [1], 1⟩], (3, 24, 26), [0]), ([⟨0, [1], 0⟩, ⟨0, [0], 1⟩, ⟨1, [0], 0⟩, ⟨1, [1], 1⟩, ⟨2, [0], 0⟩, ⟨2, [1], 1⟩], (3, 26, 0), [0]), ([⟨0, [1], 0⟩, ⟨0, [0], 1⟩, ⟨1, [0], 0⟩, ⟨1, [1], 1⟩, ⟨2, [0], 0⟩, ⟨2, [1], 1⟩], (3, 26, 24), [0]), ([⟨0, [1], 0⟩, ⟨0, [0], 1⟩, ⟨1, [0], 0⟩, ⟨1, [1], 1⟩, ⟨2, [0], 0⟩, ⟨2, [1], 1⟩], (3, 26, 26), [0]), ([⟨0, [1], 0⟩, ⟨0, [0], 1⟩, ⟨1, [0], 0⟩, ⟨1, [1], 1⟩, ⟨2, [0, 1], 1⟩], (3, 26, 0), [0])]
theorem hard0 : okH [[1, 2], [3, 4], [5, 6], [0, 7], [7, 8], [7, 7], [9, 9], [2, 9], [2, 2], [10, 11], [6, 6], [11, 11]] [1, 0, 0, 0, 0, 0, 1, 1, 1, 1, 0, 1] Q0 P0 = true := by decide +kernel
theorem hdl0 : dlOk [[1, 2], [3, 4], [5, 6], [0, 7], [7, 8], [7, 7], [9, 9], [2, 9], [2, 2], [10, 11], [6, 6], [11, 11]] [1, 0, 0, 0, 0, 0, 1, 1, 1, 1, 0, 1] 0 = true := by decide +kernel
def Q1 : TrD := (ND 0 (ND 1 (ND 3 (LD 0 0) (ND 5 (ND 4 (ND 6 (ND 5 (LD 4 4) (LD 10 8)) (ND 5 (LD 4 4) (LD 10 8))) (ND 7 (ND 8 (LD 11 9) (LD 13 10)) (LD 10 8))) (ND 8 (ND 9 (ND 7 (LD 9 8) (LD 10 8)) (LD 8 7)) (ND 10 (ND 10 (LD 14 10) (LD 13 10)) (LD 13 10))))) (ND 2 (ND 4 (ND 6 (ND 5 (LD 16 4) (ND 8 (ND 9 (ND 7 (ND 8 (LD 20 9) (LD 41 10)) (LD 19 8)) (LD 8 7)) (LD 41 10))) (ND 5 (ND 4 (ND 6 (ND 5 (LD 24 4) (LD 10 8)) (LD 23 5)) (LD 67 7)) (LD 10 8))) (ND 7 (LD 70 8) (LD 73 8))) (ND 4 (LD 17 6) (ND 7 (ND 8 (ND 9 (ND 7 (LD 30 8) (LD 48 8)) (LD 27 7)) (ND 10 (ND 10 (ND 10 (ND 10 (LD 34 10) (LD 41 10)) (LD 33 10)) (LD 57 10)) (LD 41 10))) (ND 8 (ND 9 (ND 7 (ND 8 (LD 38 9) (LD 41 10)) (LD 48 8)) (LD 67 7)) (ND 10 (ND 10 (ND 10 (LD 58 10) (LD 41 10)) (LD 57 10)) (LD 13 10))))))) (ND 2 (ND 4 (ND 6 (ND 5 (LD 45 4) (ND 8 (LD 38 9) (LD 41 10))) (ND 5 (ND 4 (ND 6 (ND 5 (LD 50 4) (LD 73 8)) (LD 49 5)) (LD 8 7)) (LD 73 8))) (ND 7 (ND 8 (ND 9 (ND 7 (LD 54 8) (LD 10 8)) (LD 53 7)) (ND 10 (ND 10 (LD 42 10) (LD 13 10)) (LD 41 10))) (LD 10 8))) (ND 4 (ND 6 (ND 5 (ND 4 (LD 60 6) (LD 27 7)) (LD 48 8)) (ND 5 (ND 4 (ND 6 (ND 5 (LD 64 4) (LD 73 8)) (LD 63 5)) (ND 7 (ND 8 (LD 74 9) (LD 13 10)) (LD 73 8))) (LD 73 8))) (ND 7 (ND 8 (ND 9 (ND 7 (LD 70 8) (LD 73 8)) (LD 27 7)) (LD 57 10)) (ND 8 (ND 9 (ND 7 (LD 68 8) (LD 73 8)) (LD 67 7)) (LD 13 10))))))
def P1 : List (List Slot × (Nat × Nat × Nat) × List Nat) := [([⟨0, [0, 1], 0⟩, ⟨1, [1], 0⟩, ⟨1, [0], 1⟩, ⟨2, [0], 0⟩, ⟨2, [1], 1⟩], (0, 3, 26), [1]), ([⟨0, [1], 0⟩, ⟨0, [0], 1⟩, ⟨1, [1], 0⟩, ⟨1, [0], 1⟩, ⟨2, [0], 0⟩, ⟨2, [1], 1⟩], (0, 3, 26), [1]), ([⟨0, [1], 0⟩, ⟨0, [0], 1⟩, ⟨1, [1], 0⟩, ⟨1, [0], 1⟩, ⟨2, [0], 0⟩, ⟨2, [1], 1⟩], (3, 0, 26), [1]), ([⟨0, [1], 0⟩, ⟨0, [0], 1⟩, ⟨1, [1], 0⟩, ⟨1, [0], 1⟩, ⟨2, [0], 0⟩, ⟨2, [1], 1⟩], (3, 3, 26), [1]), ([⟨0, [1], 0⟩, ⟨0, [0], 1⟩, ⟨1, [0], 0⟩, ⟨1, [1], 1⟩, ⟨2, [0], 0⟩, ⟨2, [1], 1⟩], (3, 0, 26), [1]), ([⟨0, [1], 0⟩, ⟨0, [0], 1⟩, ⟨1, [0], 0⟩, ⟨1, [1], 1⟩, ⟨2, [0], 0⟩, ⟨2, [1], 1⟩], (3, 24, 26), [1]), ([⟨0, [1], 0⟩, ⟨0, [0], 1⟩, ⟨1, [0], 0⟩, ⟨1, [1], 1⟩, ⟨2, [0], 0⟩, ⟨2, [1], 1⟩], (3, 26, 0), [1]), ([⟨0, [1], 0⟩, ⟨0, [0], 1⟩, ⟨1, [0], 0⟩, ⟨1, [1], 1⟩, ⟨2, [0], 0⟩, ⟨2, [1], 1⟩], (3, 26, 24), [1]), ([⟨0, [1], 0⟩, ⟨0, [0], 1⟩, ⟨1, [0], 0⟩, ⟨1, [1], 1⟩, ⟨2, [0], 0⟩, ⟨2, [1], 1⟩], (3, 26, 26), [1]), ([⟨0, [1], 0⟩, ⟨0, [0], 1⟩, ⟨1, [0], 0⟩, ⟨1, [1], 1⟩, ⟨2, [0, 1], 1⟩], (3, 26, 0), [1])]
theorem hard1 : okH [[1, 2], [3, 2], [4, 4], [0, 5], [6, 7], [4, 8], [5, 5], [8, 8], [9, 10], [7, 7], [10, 10]] [0, 0, 1, 0, 0, 1, 0, 1, 1, 0, 1] Q1 P1 = true := by decide +kernel
theorem hdl1 : dlOk [[1, 2], [3, 2], [4, 4], [0, 5], [6, 7], [4, 8], [5, 5], [8, 8], [9, 10], [7, 7], [10, 10]] [0, 0, 1, 0, 0, 1, 0, 1, 1, 0, 1] 0 = true := by decide +kernel
def Q2 : TrD := (ND 0 (ND 1 (ND 3 (LD 0 0) (ND 0 (ND 1 (ND 3 (ND 0 (LD 4 1) (LD 10 2)) (ND 0 (LD 4 1) (LD 10 2))) (ND 4 (ND 2 (LD 11 5) (LD 13 6)) (LD 10 2))) (ND 2 (ND 5 (ND 4 (LD 9 2) (LD 10 2)) (LD 8 4)) (ND 6 (ND 6 (LD 14 6) (LD 13 6)) (LD 13 6))))) (ND 4 (ND 2 (ND 5 (ND 4 (LD 16 2) (ND 2 (ND 5 (ND 4 (ND 2 (LD 20 5) (LD 41 6)) (LD 19 2)) (LD 8 4)) (LD 41 6))) (ND 4 (ND 2 (ND 5 (ND 4 (LD 24 2) (LD 10 2)) (LD 23 4)) (LD 67 6)) (LD 10 2))) (ND 6 (LD 70 6) (LD 73 6))) (ND 2 (LD 17 5) (ND 6 (ND 6 (ND 6 (ND 6 (LD 30 6) (LD 48 6)) (LD 27 6)) (ND 6 (ND 6 (ND 6 (ND 6 (LD 34 6) (LD 41 6)) (LD 33 6)) (LD 57 6)) (LD 41 6))) (ND 6 (ND 6 (ND 6 (ND 6 (LD 38 6) (LD 41 6)) (LD 48 6)) (LD 67 6)) (ND 6 (ND 6 (ND 6 (LD 58 6) (LD 41 6)) (LD 57 6)) (LD 13 6))))))) (ND 2 (ND 5 (ND 4 (ND 2 (LD 45 5) (ND 6 (LD 38 6) (LD 41 6))) (ND 2 (ND 5 (ND 4 (ND 2 (LD 50 5) (LD 73 6)) (LD 49 2)) (LD 8 4)) (LD 73 6))) (ND 4 (ND 2 (ND 5 (ND 4 (LD 54 2) (LD 10 2)) (LD 53 4)) (ND 6 (ND 6 (LD 42 6) (LD 13 6)) (LD 41 6))) (LD 10 2))) (ND 6 (ND 6 (ND 6 (ND 6 (LD 60 6) (LD 27 6)) (LD 48 6)) (ND 6 (ND 6 (ND 6 (ND 6 (LD 64 6) (LD 73 6)) (LD 63 6)) (ND 6 (ND 6 (LD 74 6) (LD 13 6)) (LD 73 6))) (LD 73 6))) (ND 6 (ND 6 (ND 6 (ND 6 (LD 70 6) (LD 73 6)) (LD 27 6)) (LD 57 6)) (ND 6 (ND 6 (ND 6 (LD 68 6) (LD 73 6)) (LD 67 6)) (LD 13 6))))))
def P2 : List (List Slot × (Nat × Nat × Nat) × List Nat) := [([⟨0, [0, 1], 0⟩, ⟨1, [1], 0⟩, ⟨1, [0], 1⟩, ⟨2, [0], 0⟩, ⟨2, [1], 1⟩], (0, 3, 26), [0, 1]), ([⟨0, [1], 0⟩, ⟨0, [0], 1⟩, ⟨1, [1], 0⟩, ⟨1, [0], 1⟩, ⟨2, [0], 0⟩, ⟨2, [1], 1⟩], (0, 3, 26), [0, 1]), ([⟨0, [1], 0⟩, ⟨0, [0], 1⟩, ⟨1, [1], 0⟩, ⟨1, [0], 1⟩, ⟨2, [0], 0⟩, ⟨2, [1], 1⟩], (3, 0, 26), [0, 1]), ([⟨0, [1], 0⟩, ⟨0, [0], 1⟩, ⟨1, [1], 0⟩, ⟨1, [0], 1⟩, ⟨2, [0], 0⟩, ⟨2, [1], 1⟩], (3, 3, 26), [0, 1]), ([⟨0, [1], 0⟩, ⟨0, [0], 1⟩, ⟨1, [0], 0⟩, ⟨1, [1], 1⟩, ⟨2, [0], 0⟩, ⟨2, [1], 1⟩], (3, 0, 26), [0, 1]), ([⟨0, [1], 0⟩, ⟨0, [0], 1⟩, ⟨1, [0], 0⟩, ⟨1, [1], 1⟩, ⟨2, [0], 0⟩, ⟨2, [1], 1⟩], (3, 24, 26), [0, 1]), ([⟨0, [1], 0⟩, ⟨0, [0], 1⟩, ⟨1, [0], 0⟩, ⟨1, [1], 1⟩, ⟨2, [0], 0⟩, ⟨2, [1], 1⟩], (3, 26, 0), [0, 1]), ([⟨0, [1], 0⟩, ⟨0, [0], 1⟩, ⟨1, [0], 0⟩, ⟨1, [1], 1⟩, ⟨2, [0], 0⟩, ⟨2, [1], 1⟩], (3, 26, 24), [0, 1]), ([⟨0, [1], 0⟩, ⟨0, [0], 1⟩, ⟨1, [0], 0⟩, ⟨1, [1], 1⟩, ⟨2, [0], 0⟩, ⟨2, [1], 1⟩], (3, 26, 26), [0, 1]), ([⟨0, [1], 0⟩, ⟨0, [0], 1⟩, ⟨1, [0], 0⟩, ⟨1, [1], 1⟩, ⟨2, [0, 1], 1⟩], (3, 26, 0), [0, 1])]
theorem hard2 : okH [[1, 2], [3, 4], [5, 6], [0, 0], [2, 2], [4, 4], [6, 6]] [1, 0, 1, 0, 1, 0, 1] Q2 P2 = true := by decide +kernel
theorem hdl2 : dlOk [[1, 2], [3, 4], [5, 6], [0, 0], [2, 2], [4, 4], [6, 6]] [1, 0, 1, 0, 1, 0, 1] 0 = true := by decide +kernel
def Q3 : TrD := (ND 0 (ND 1 (ND 3 (ND 7 (ND 10 (ND 10 (LD 5 10) (ND 10 (LD 5 10) (LD 6 10))) (ND 10 (ND 10 (LD 4 10) (ND 10 (LD 5 10) (LD 7 10))) (ND 10 (LD 4 10) (LD 9 10)))) (ND 11 (ND 3 (ND 7 (LD 5 10) (ND 11 (LD 12 3) (ND 3 (LD 13 7) (LD 16 7)))) (ND 7 (LD 5 10) (LD 14 11))) (ND 3 (LD 67 7) (ND 7 (LD 4 10) (LD 11 11))))) (ND 7 (ND 10 (LD 4 10) (ND 10 (LD 8 10) (ND 10 (LD 20 10) (ND 10 (LD 4 10) (LD 21 10))))) (ND 11 (ND 3 (LD 13 7) (ND 7 (LD 8 10) (ND 11 (LD 25 3) (ND 3 (LD 13 7) (LD 26 7))))) (ND 3 (LD 67 7) (LD 19 7))))) (ND 4 (ND 8 (ND 7 (LD 5 10) (ND 11 (LD 71 3) (ND 3 (LD 32 7) (LD 72 7)))) (ND 1 (LD 12 3) (ND 4 (LD 31 8) (ND 8 (LD 32 7) (LD 35 1))))) (ND 8 (ND 7 (LD 4 10) (ND 11 (LD 71 3) (ND 3 (LD 39 7) (ND 7 (LD 4 10) (LD 40 11))))) (ND 1 (LD 25 3) (LD 30 4))))) (ND 2 (ND 5 (ND 9 (ND 1 (ND 3 (LD 13 7) (LD 26 7)) (ND 4 (ND 8 (LD 13 7) (ND 1 (LD 12 3) (ND 4 (LD 50 8) (ND 8 (LD 13 7) (LD 51 1))))) (ND 8 (LD 67 7) (ND 1 (LD 25 3) (LD 49 4))))) (ND 1 (ND 3 (LD 32 7) (ND 7 (LD 8 10) (ND 11 (LD 57 3) (ND 3 (LD 32 7) (LD 58 7))))) (ND 4 (ND 8 (LD 13 7) (ND 1 (LD 71 3) (ND 4 (LD 62 8) (ND 8 (LD 13 7) (LD 63 1))))) (LD 66 8)))) (ND 8 (ND 7 (LD 4 10) (LD 11 11)) (LD 56 1))) (ND 6 (ND 8 (LD 32 7) (ND 1 (ND 3 (LD 32 7) (ND 7 (LD 5 10) (LD 33 11))) (ND 4 (ND 8 (LD 32 7) (LD 70 1)) (ND 8 (LD 32 7) (LD 70 1))))) (LD 0 0))))
def P3 : List (List Slot × (Nat × Nat × Nat) × List Nat) := [([⟨0, [0, 1], 0⟩, ⟨1, [1], 0⟩, ⟨1, [0], 1⟩, ⟨2, [0], 0⟩, ⟨2, [1], 1⟩], (0, 11, 26), [0]), ([⟨0, [1], 0⟩, ⟨0, [0], 1⟩, ⟨1, [1], 0⟩, ⟨1, [0], 1⟩, ⟨2, [0], 0⟩, ⟨2, [1], 1⟩], (0, 11, 26), [0]), ([⟨0, [1], 0⟩, ⟨0, [0], 1⟩, ⟨1, [1], 0⟩, ⟨1, [0], 1⟩, ⟨2, [0], 0⟩, ⟨2, [1], 1⟩], (11, 0, 26), [0]), ([⟨0, [1], 0⟩, ⟨0, [0], 1⟩, ⟨1, [1], 0⟩, ⟨1, [0], 1⟩, ⟨2, [0], 0⟩, ⟨2, [1], 1⟩], (11, 11, 26), [0]), ([⟨0, [1], 0⟩, ⟨0, [0], 1⟩, ⟨1, [1], 0⟩, ⟨1, [0], 1⟩, ⟨2, [0], 0⟩, ⟨2, [1], 1⟩], (11, 27, 26), [0]), ([⟨0, [1], 0⟩, ⟨0, [0], 1⟩, ⟨1, [1], 0⟩, ⟨1, [0], 1⟩, ⟨2, [0], 0⟩, ⟨2, [1], 1⟩], (27, 11, 26), [0]), ([⟨0, [1], 0⟩, ⟨0, [0], 1⟩, ⟨1, [0], 0⟩, ⟨1, [1], 1⟩, ⟨2, [0], 0⟩, ⟨2, [1], 1⟩], (11, 0, 26), [0]), ([⟨0, [1], 0⟩, ⟨0, [0], 1⟩, ⟨1, [0], 0⟩, ⟨1, [1], 1⟩, ⟨2, [0], 0⟩, ⟨2, [1], 1⟩], (11, 24, 26), [0]), ([⟨0, [1], 0⟩, ⟨0, [0], 1⟩, ⟨1, [0], 0⟩, ⟨1, [1], 1⟩, ⟨2, [0], 0⟩, ⟨2, [1], 1⟩], (11, 26, 0), [0]), ([⟨0, [1], 0⟩, ⟨0, [0], 1⟩, ⟨1, [0], 0⟩, ⟨1, [1], 1⟩, ⟨2, [0], 0⟩, ⟨2, [1], 1⟩], (11, 26, 24), [0]), ([⟨0, [1], 0⟩, ⟨0, [0], 1⟩, ⟨1, [0], 0⟩, ⟨1, [1], 1⟩, ⟨2, [0], 0⟩, ⟨2, [1], 1⟩], (11, 26, 26), [0]), ([⟨0, [1], 0⟩, ⟨0, [0], 1⟩, ⟨1, [0], 0⟩, ⟨1, [1], 1⟩, ⟨2, [0, 1], 1⟩], (11, 26, 0), [0])]
theorem hard3 : okH [[1, 2], [3, 4], [5, 6], [7, 7], [8, 8], [9, 8], [8, 0], [10, 11], [7, 1], [1, 1], [10, 10], [3, 3]] [1, 0, 0, 1, 0, 0, 0, 1, 1, 1, 1, 0] Q3 P3 = true := by decide +kernel
theorem hdl3 : dlOk [[1, 2], [3, 4], [5, 6], [7, 7], [8, 8], [9, 8], [8, 0], [10, 11], [7, 1], [1, 1], [10, 10], [3, 3]] [1, 0, 0, 1, 0, 0, 0, 1, 1, 1, 1, 0] 0 = true := by decide +kernel
def Q4 : TrD := (ND 0 (ND 1 (ND 3 (ND 5 (ND 8 (ND 9 (LD 5 9) (ND 9 (LD 5 9) (LD 6 9))) (ND 10 (ND 5 (LD 4 8) (ND 8 (LD 5 9) (LD 7 10))) (ND 5 (LD 4 8) (LD 9 8)))) (ND 8 (ND 9 (ND 9 (LD 5 9) (ND 9 (LD 12 9) (ND 9 (LD 13 9) (LD 16 9)))) (ND 9 (LD 5 9) (LD 14 9))) (ND 10 (LD 67 5) (ND 5 (LD 4 8) (LD 11 8))))) (ND 6 (ND 7 (LD 4 8) (ND 3 (LD 8 5) (ND 6 (LD 20 7) (ND 7 (LD 4 8) (LD 21 3))))) (ND 7 (ND 8 (LD 13 9) (ND 10 (LD 8 5) (ND 5 (LD 25 8) (ND 8 (LD 13 9) (LD 26 10))))) (ND 3 (LD 67 5) (LD 19 6))))) (ND 3 (ND 5 (ND 8 (LD 5 9) (ND 10 (LD 71 5) (ND 5 (LD 32 8) (LD 72 8)))) (ND 8 (LD 12 9) (ND 10 (LD 31 5) (ND 5 (LD 32 8) (LD 35 8))))) (ND 6 (ND 7 (LD 4 8) (ND 3 (LD 71 5) (ND 6 (LD 39 7) (ND 7 (LD 4 8) (LD 40 3))))) (ND 7 (LD 25 8) (LD 30 3))))) (ND 2 (ND 1 (ND 3 (ND 5 (ND 8 (LD 13 9) (LD 26 10)) (ND 8 (ND 9 (LD 13 9) (ND 9 (LD 12 9) (ND 9 (LD 50 9) (ND 9 (LD 13 9) (LD 51 9))))) (ND 10 (LD 67 5) (ND 5 (LD 25 8) (LD 49 8))))) (ND 6 (ND 7 (LD 32 8) (ND 3 (LD 8 5) (ND 6 (LD 57 7) (ND 7 (LD 32 8) (LD 58 3))))) (ND 7 (ND 8 (LD 13 9) (ND 10 (LD 71 5) (ND 5 (LD 62 8) (ND 8 (LD 13 9) (LD 63 10))))) (LD 66 3)))) (ND 3 (ND 5 (LD 4 8) (LD 11 8)) (LD 56 6))) (ND 4 (ND 7 (LD 32 8) (ND 3 (ND 5 (LD 32 8) (ND 8 (LD 5 9) (LD 33 10))) (ND 6 (ND 7 (LD 32 8) (LD 70 3)) (ND 7 (LD 32 8) (LD 70 3))))) (LD 0 0))))
def P4 : List (List Slot × (Nat × Nat × Nat) × List Nat) := [([⟨0, [0, 1], 0⟩, ⟨1, [1], 0⟩, ⟨1, [0], 1⟩, ⟨2, [0], 0⟩, ⟨2, [1], 1⟩], (0, 11, 26), [1]), ([⟨0, [1], 0⟩, ⟨0, [0], 1⟩, ⟨1, [1], 0⟩, ⟨1, [0], 1⟩, ⟨2, [0], 0⟩, ⟨2, [1], 1⟩], (0, 11, 26), [1]), ([⟨0, [1], 0⟩, ⟨0, [0], 1⟩, ⟨1, [1], 0⟩, ⟨1, [0], 1⟩, ⟨2, [0], 0⟩, ⟨2, [1], 1⟩], (11, 0, 26), [1]), ([⟨0, [1], 0⟩, ⟨0, [0], 1⟩, ⟨1, [1], 0⟩, ⟨1, [0], 1⟩, ⟨2, [0], 0⟩, ⟨2, [1], 1⟩], (11, 11, 26), [1]), ([⟨0, [1], 0⟩, ⟨0, [0], 1⟩, ⟨1, [1], 0⟩, ⟨1, [0], 1⟩, ⟨2, [0], 0⟩, ⟨2, [1], 1⟩], (11, 27, 26), [1]), ([⟨0, [1], 0⟩, ⟨0, [0], 1⟩, ⟨1, [1], 0⟩, ⟨1, [0], 1⟩, ⟨2, [0], 0⟩, ⟨2, [1], 1⟩], (27, 11, 26), [1]), ([⟨0, [1], 0⟩, ⟨0, [0], 1⟩, ⟨1, [0], 0⟩, ⟨1, [1], 1⟩, ⟨2, [0], 0⟩, ⟨2, [1], 1⟩], (11, 0, 26), [1]), ([⟨0, [1], 0⟩, ⟨0, [0], 1⟩, ⟨1, [0], 0⟩, ⟨1, [1], 1⟩, ⟨2, [0], 0⟩, ⟨2, [1], 1⟩], (11, 24, 26), [1]), ([⟨0, [1], 0⟩, ⟨0, [0], 1⟩, ⟨1, [0], 0⟩, ⟨1, [1], 1⟩, ⟨2, [0], 0⟩, ⟨2, [1], 1⟩], (11, 26, 0), [1]), ([⟨0, [1], 0⟩, ⟨0, [0], 1⟩, ⟨1, [0], 0⟩, ⟨1, [1], 1⟩, ⟨2, [0], 0⟩, ⟨2, [1], 1⟩], (11, 26, 24), [1]), ([⟨0, [1], 0⟩, ⟨0, [0], 1⟩, ⟨1, [0], 0⟩, ⟨1, [1], 1⟩, ⟨2, [0], 0⟩, ⟨2, [1], 1⟩], (11, 26, 26), [1]), ([⟨0, [1], 0⟩, ⟨0, [0], 1⟩, ⟨1, [0], 0⟩, ⟨1, [1], 1⟩, ⟨2, [0, 1], 1⟩], (11, 26, 0), [1])]
theorem hard4 : okH [[1, 2], [3, 3], [1, 4], [5, 6], [7, 0], [8, 8], [7, 7], [8, 3], [9, 10], [9, 9], [5, 5]] [0, 1, 0, 0, 0, 1, 0, 1, 1, 1, 0] Q4 P4 = true := by decide +kernel
theorem hdl4 : dlOk [[1, 2], [3, 3], [1, 4], [5, 6], [7, 0], [8, 8], [7, 7], [8, 3], [9, 10], [9, 9], [5, 5]] [0, 1, 0, 0, 0, 1, 0, 1, 1, 1, 0] 0 = true := by decide +kernel
def Q5 : TrD := (ND 0 (ND 1 (ND 3 (ND 3 (ND 3 (ND 3 (LD 5 3) (ND 3 (LD 5 3) (LD 6 3))) (ND 3 (ND 3 (LD 4 3) (ND 3 (LD 5 3) (LD 7 3))) (ND 3 (LD 4 3) (LD 9 3)))) (ND 3 (ND 3 (ND 3 (LD 5 3) (ND 3 (LD 12 3) (ND 3 (LD 13 3) (LD 16 3)))) (ND 3 (LD 5 3) (LD 14 3))) (ND 3 (LD 67 3) (ND 3 (LD 4 3) (LD 11 3))))) (ND 3 (ND 3 (LD 4 3) (ND 3 (LD 8 3) (ND 3 (LD 20 3) (ND 3 (LD 4 3) (LD 21 3))))) (ND 3 (ND 3 (LD 13 3) (ND 3 (LD 8 3) (ND 3 (LD 25 3) (ND 3 (LD 13 3) (LD 26 3))))) (ND 3 (LD 67 3) (LD 19 3))))) (ND 4 (ND 5 (ND 1 (LD 5 3) (ND 4 (LD 71 5) (ND 5 (LD 32 1) (LD 72 1)))) (ND 1 (LD 12 3) (ND 4 (LD 31 5) (ND 5 (LD 32 1) (LD 35 1))))) (ND 5 (ND 1 (LD 4 3) (ND 4 (LD 71 5) (ND 5 (LD 39 1) (ND 1 (LD 4 3) (LD 40 4))))) (ND 1 (LD 25 3) (LD 30 4))))) (ND 2 (ND 5 (ND 1 (ND 3 (ND 3 (LD 13 3) (LD 26 3)) (ND 3 (ND 3 (LD 13 3) (ND 3 (LD 12 3) (ND 3 (LD 50 3) (ND 3 (LD 13 3) (LD 51 3))))) (ND 3 (LD 67 3) (ND 3 (LD 25 3) (LD 49 3))))) (ND 4 (ND 5 (LD 32 1) (ND 1 (LD 8 3) (ND 4 (LD 57 5) (ND 5 (LD 32 1) (LD 58 1))))) (ND 5 (ND 1 (LD 13 3) (ND 4 (LD 71 5) (ND 5 (LD 62 1) (ND 1 (LD 13 3) (LD 63 4))))) (LD 66 1)))) (ND 1 (ND 3 (LD 4 3) (LD 11 3)) (LD 56 4))) (ND 6 (ND 0 (LD 32 1) (ND 2 (ND 5 (LD 32 1) (ND 1 (LD 5 3) (LD 33 4))) (ND 6 (ND 0 (LD 32 1) (LD 70 2)) (ND 0 (LD 32 1) (LD 70 2))))) (LD 0 0))))
def P5 : List (List Slot × (Nat × Nat × Nat) × List Nat) := [([⟨0, [0, 1], 0⟩, ⟨1, [1], 0⟩, ⟨1, [0], 1⟩, ⟨2, [0], 0⟩, ⟨2, [1], 1⟩], (0, 11, 26), [0, 1]), ([⟨0, [1], 0⟩, ⟨0, [0], 1⟩, ⟨1, [1], 0⟩, ⟨1, [0], 1⟩, ⟨2, [0], 0⟩, ⟨2, [1], 1⟩], (0, 11, 26), [0, 1]), ([⟨0, [1], 0⟩, ⟨0, [0], 1⟩, ⟨1, [1], 0⟩, ⟨1, [0], 1⟩, ⟨2, [0], 0⟩, ⟨2, [1], 1⟩], (11, 0, 26), [0, 1]), ([⟨0, [1], 0⟩, ⟨0, [0], 1⟩, ⟨1, [1], 0⟩, ⟨1, [0], 1⟩, ⟨2, [0], 0⟩, ⟨2, [1], 1⟩], (11, 11, 26), [0, 1]), ([⟨0, [1], 0⟩, ⟨0, [0], 1⟩, ⟨1, [1], 0⟩, ⟨1, [0], 1⟩, ⟨2, [0], 0⟩, ⟨2, [1], 1⟩], (11, 27, 26), [0, 1]), ([⟨0, [1], 0⟩, ⟨0, [0], 1⟩, ⟨1, [1], 0⟩, ⟨1, [0], 1⟩, ⟨2, [0], 0⟩, ⟨2, [1], 1⟩], (27, 11, 26), [0, 1]), ([⟨0, [1], 0⟩, ⟨0, [0], 1⟩, ⟨1, [0], 0⟩, ⟨1, [1], 1⟩, ⟨2, [0], 0⟩, ⟨2, [1], 1⟩], (11, 0, 26), [0, 1]), ([⟨0, [1], 0⟩, ⟨0, [0], 1⟩, ⟨1, [0], 0⟩, ⟨1, [1], 1⟩, ⟨2, [0], 0⟩, ⟨2, [1], 1⟩], (11, 24, 26), [0, 1]), ([⟨0, [1], 0⟩, ⟨0, [0], 1⟩, ⟨1, [0], 0⟩, ⟨1, [1], 1⟩, ⟨2, [0], 0⟩, ⟨2, [1], 1⟩], (11, 26, 0), [0, 1]), ([⟨0, [1], 0⟩, ⟨0, [0], 1⟩, ⟨1, [0], 0⟩, ⟨1, [1], 1⟩, ⟨2, [0], 0⟩, ⟨2, [1], 1⟩], (11, 26, 24), [0, 1]), ([⟨0, [1], 0⟩, ⟨0, [0], 1⟩, ⟨1, [0], 0⟩, ⟨1, [1], 1⟩, ⟨2, [0], 0⟩, ⟨2, [1], 1⟩], (11, 26, 26), [0, 1]), ([⟨0, [1], 0⟩, ⟨0, [0], 1⟩, ⟨1, [0], 0⟩, ⟨1, [1], 1⟩, ⟨2, [0, 1], 1⟩], (11, 26, 0), [0, 1])]
theorem hard5 : okH [[1, 2], [3, 4], [5, 6], [3, 3], [5, 5], [1, 1], [0, 0]] [1, 1, 0, 1, 0, 1, 0] Q5 P5 = true := by decide +kernel
theorem hdl5 : dlOk [[1, 2], [3, 4], [5, 6], [3, 3], [5, 5], [1, 1], [0, 0]] [1, 1, 0, 1, 0, 1, 0] 0 = true := by decide +kernel
def Q6 : TrD := (ND 0 (ND 1 (ND 3 (ND 6 (ND 6 (ND 6 (LD 5 6) (LD 6 6)) (ND 6 (LD 5 6) (ND 6 (LD 5 6) (LD 7 6)))) (ND 6 (LD 5 6) (ND 6 (ND 6 (LD 4 6) (LD 8 6)) (ND 6 (LD 4 6) (ND 6 (LD 5 6) (LD 9 6)))))) (ND 7 (LD 4 6) (ND 1 (ND 3 (ND 6 (LD 5 6) (LD 6 6)) (ND 7 (LD 5 6) (ND 1 (LD 15 3) (ND 3 (LD 16 6) (ND 7 (LD 5 6) (LD 18 1)))))) (ND 3 (LD 24 6) (ND 7 (LD 4 6) (LD 14 1)))))) (ND 3 (ND 6 (LD 4 6) (LD 8 6)) (ND 7 (ND 6 (LD 4 6) (ND 6 (LD 10 6) (ND 6 (LD 26 6) (ND 6 (LD 4 6) (ND 6 (LD 10 6) (LD 28 6)))))) (ND 1 (ND 3 (LD 16 6) (LD 17 7)) (ND 3 (LD 24 6) (LD 25 7)))))) (ND 2 (ND 4 (ND 8 (ND 1 (ND 3 (LD 16 6) (LD 17 7)) (ND 3 (LD 16 6) (ND 7 (LD 10 6) (ND 1 (LD 32 3) (ND 3 (LD 16 6) (LD 40 7)))))) (ND 10 (LD 32 3) (ND 11 (ND 9 (LD 16 6) (ND 10 (LD 15 3) (ND 11 (LD 45 9) (ND 9 (LD 16 6) (ND 10 (LD 15 3) (LD 47 11)))))) (ND 9 (LD 24 6) (ND 10 (LD 32 3) (LD 44 11)))))) (ND 9 (LD 24 6) (ND 10 (ND 3 (LD 62 6) (ND 7 (LD 10 6) (ND 1 (LD 54 3) (ND 3 (LD 62 6) (LD 55 7))))) (ND 11 (ND 9 (LD 16 6) (LD 46 10)) (LD 52 9))))) (ND 5 (ND 9 (ND 6 (LD 5 6) (LD 6 6)) (ND 10 (ND 3 (LD 62 6) (ND 7 (LD 5 6) (ND 1 (LD 64 3) (ND 3 (LD 62 6) (LD 65 7))))) (ND 11 (ND 9 (LD 62 6) (LD 63 10)) (ND 9 (LD 62 6) (LD 63 10))))) (LD 0 0))))
def P6 : List (List Slot × (Nat × Nat × Nat) × List Nat) := [([⟨0, [1], 0⟩, ⟨0, [0], 1⟩, ⟨1, [0], 0⟩, ⟨1, [1], 1⟩, ⟨2, [0], 0⟩, ⟨2, [1], 1⟩], (11, 26, 28), [0]), ([⟨0, [1], 0⟩, ⟨0, [0], 1⟩, ⟨1, [0], 0⟩, ⟨1, [1], 1⟩, ⟨2, [0], 0⟩, ⟨2, [1], 1⟩], (11, 28, 26), [0])]
theorem hard6 : okH [[1, 2], [3, 3], [4, 5], [6, 7], [8, 9], [9, 0], [6, 6], [6, 1], [1, 10], [6, 10], [3, 11], [9, 9]] [1, 0, 0, 1, 0, 0, 1, 1, 1, 1, 0, 0] Q6 P6 = true := by decide +kernel
theorem hdl6 : dlOk [[1, 2], [3, 3], [4, 5], [6, 7], [8, 9], [9, 0], [6, 6], [6, 1], [1, 10], [6, 10], [3, 11], [9, 9]] [1, 0, 0, 1, 0, 0, 1, 1, 1, 1, 0, 0] 0 = true := by decide +kernel
def Q7 : TrD := (ND 0 (ND 1 (ND 3 (ND 6 (ND 9 (ND 9 (LD 5 9) (LD 6 9)) (ND 9 (LD 5 9) (ND 9 (LD 5 9) (LD 7 9)))) (ND 10 (LD 5 9) (ND 3 (ND 6 (LD 4 9) (LD 8 10)) (ND 6 (LD 4 9) (ND 10 (LD 5 9) (LD 9 3)))))) (ND 6 (LD 4 9) (ND 10 (ND 9 (ND 9 (LD 5 9) (LD 6 9)) (ND 9 (LD 5 9) (ND 9 (LD 15 9) (ND 9 (LD 16 9) (ND 9 (LD 5 9) (LD 18 9)))))) (ND 3 (LD 24 6) (ND 6 (LD 4 9) (LD 14 10)))))) (ND 4 (ND 6 (LD 4 9) (LD 8 10)) (ND 7 (ND 8 (LD 4 9) (ND 4 (LD 10 6) (ND 7 (LD 26 8) (ND 8 (LD 4 9) (ND 4 (LD 10 6) (LD 28 7)))))) (ND 8 (ND 9 (LD 16 9) (LD 17 9)) (ND 4 (LD 24 6) (LD 25 7)))))) (ND 2 (ND 1 (ND 3 (ND 6 (ND 9 (LD 16 9) (LD 17 9)) (ND 10 (LD 16 9) (ND 3 (LD 10 6) (ND 6 (LD 32 9) (ND 10 (LD 16 9) (LD 40 3)))))) (ND 6 (LD 32 9) (ND 10 (ND 9 (LD 16 9) (ND 9 (LD 15 9) (ND 9 (LD 45 9) (ND 9 (LD 16 9) (ND 9 (LD 15 9) (LD 47 9)))))) (ND 3 (LD 24 6) (ND 6 (LD 32 9) (LD 44 10)))))) (ND 4 (LD 24 6) (ND 7 (ND 8 (LD 62 9) (ND 4 (LD 10 6) (ND 7 (LD 54 8) (ND 8 (LD 62 9) (LD 55 4))))) (ND 8 (ND 9 (LD 16 9) (LD 46 9)) (LD 52 4))))) (ND 5 (ND 8 (ND 9 (LD 5 9) (LD 6 9)) (ND 4 (ND 6 (LD 62 9) (ND 10 (LD 5 9) (ND 3 (LD 64 6) (ND 6 (LD 62 9) (LD 65 10))))) (ND 7 (ND 8 (LD 62 9) (LD 63 4)) (ND 8 (LD 62 9) (LD 63 4))))) (LD 0 0))))
def P7 : List (List Slot × (Nat × Nat × Nat) × List Nat) := [([⟨0, [1], 0⟩, ⟨0, [0], 1⟩, ⟨1, [0], 0⟩, ⟨1, [1], 1⟩, ⟨2, [0], 0⟩, ⟨2, [1], 1⟩], (11, 26, 28), [1]), ([⟨0, [1], 0⟩, ⟨0, [0], 1⟩, ⟨1, [0], 0⟩, ⟨1, [1], 1⟩, ⟨2, [0], 0⟩, ⟨2, [1], 1⟩], (11, 28, 26), [1])]
theorem hard7 : okH [[1, 2], [3, 4], [1, 5], [6, 6], [6, 7], [8, 0], [9, 10], [8, 8], [9, 4], [9, 9], [9, 3]] [0, 1, 0, 0, 0, 0, 1, 0, 1, 1, 1] Q7 P7 = true := by decide +kernel
theorem hdl7 : dlOk [[1, 2], [3, 4], [1, 5], [6, 6], [6, 7], [8, 0], [9, 10], [8, 8], [9, 4], [9, 9], [9, 3]] [0, 1, 0, 0, 0, 0, 1, 0, 1, 1, 1] 0 = true := by decide +kernel
def Q8 : TrD := (ND 0 (ND 1 (ND 1 (ND 1 (ND 1 (ND 1 (LD 5 1) (LD 6 1)) (ND 1 (LD 5 1) (ND 1 (LD 5 1) (LD 7 1)))) (ND 1 (LD 5 1) (ND 1 (ND 1 (LD 4 1) (LD 8 1)) (ND 1 (LD 4 1) (ND 1 (LD 5 1) (LD 9 1)))))) (ND 1 (LD 4 1) (ND 1 (ND 1 (ND 1 (LD 5 1) (LD 6 1)) (ND 1 (LD 5 1) (ND 1 (LD 15 1) (ND 1 (LD 16 1) (ND 1 (LD 5 1) (LD 18 1)))))) (ND 1 (LD 24 1) (ND 1 (LD 4 1) (LD 14 1)))))) (ND 1 (ND 1 (LD 4 1) (LD 8 1)) (ND 1 (ND 1 (LD 4 1) (ND 1 (LD 10 1) (ND 1 (LD 26 1) (ND 1 (LD 4 1) (ND 1 (LD 10 1) (LD 28 1)))))) (ND 1 (ND 1 (LD 16 1) (LD 17 1)) (ND 1 (LD 24 1) (LD 25 1)))))) (ND 2 (ND 3 (ND 1 (ND 1 (ND 1 (LD 16 1) (LD 17 1)) (ND 1 (LD 16 1) (ND 1 (LD 10 1) (ND 1 (LD 32 1) (ND 1 (LD 16 1) (LD 40 1)))))) (ND 1 (LD 32 1) (ND 1 (ND 1 (LD 16 1) (ND 1 (LD 15 1) (ND 1 (LD 45 1) (ND 1 (LD 16 1) (ND 1 (LD 15 1) (LD 47 1)))))) (ND 1 (LD 24 1) (ND 1 (LD 32 1) (LD 44 1)))))) (ND 5 (LD 24 1) (ND 6 (ND 3 (LD 62 1) (ND 5 (LD 10 1) (ND 6 (LD 54 3) (ND 3 (LD 62 1) (LD 55 5))))) (ND 3 (ND 1 (LD 16 1) (LD 46 1)) (LD 52 5))))) (ND 4 (ND 0 (ND 1 (LD 5 1) (LD 6 1)) (ND 2 (ND 3 (LD 62 1) (ND 5 (LD 5 1) (ND 6 (LD 64 3) (ND 3 (LD 62 1) (LD 65 5))))) (ND 4 (ND 0 (LD 62 1) (LD 63 2)) (ND 0 (LD 62 1) (LD 63 2))))) (LD 0 0))))
def P8 : List (List Slot × (Nat × Nat × Nat) × List Nat) := [([⟨0, [1], 0⟩, ⟨0, [0], 1⟩, ⟨1, [0], 0⟩, ⟨1, [1], 1⟩, ⟨2, [0], 0⟩, ⟨2, [1], 1⟩], (11, 26, 28), [0, 1]), ([⟨0, [1], 0⟩, ⟨0, [0], 1⟩, ⟨1, [0], 0⟩, ⟨1, [1], 1⟩, ⟨2, [0], 0⟩, ⟨2, [1], 1⟩], (11, 28, 26), [0, 1])]
theorem hard8 : okH [[1, 2], [1, 1], [3, 4], [1, 5], [0, 0], [1, 6], [3, 3]] [1, 1, 0, 1, 0, 1, 0] Q8 P8 = true := by decide +kernel
theorem hdl8 : dlOk [[1, 2], [1, 1], [3, 4], [1, 5], [0, 0], [1, 6], [3, 3]] [1, 1, 0, 1, 0, 1, 0] 0 = true := by decide +kernel
def Q9 : TrD := (ND 0 (ND 1 (ND 3 (LD 0 0) (ND 6 (ND 2 (ND 5 (ND 6 (LD 4 2) (LD 18 7)) (ND 6 (LD 4 2) (LD 18 7))) (ND 4 (ND 7 (LD 19 8) (LD 17 9)) (LD 18 7))) (LD 18 7))) (ND 4 (ND 7 (ND 8 (ND 4 (LD 11 7) (LD 18 7)) (ND 4 (LD 11 7) (LD 18 7))) (ND 9 (ND 9 (LD 60 9) (ND 9 (LD 22 9) (LD 21 9))) (LD 59 9))) (ND 7 (ND 8 (ND 4 (LD 9 7) (LD 18 7)) (LD 8 4)) (ND 9 (ND 9 (LD 22 9) (LD 17 9)) (LD 21 9))))) (ND 2 (ND 5 (ND 6 (ND 2 (LD 24 5) (ND 4 (ND 7 (ND 8 (ND 4 (LD 28 7) (ND 7 (LD 33 8) (LD 21 9))) (LD 27 4)) (LD 15 9)) (ND 7 (ND 8 (ND 4 (LD 44 7) (LD 31 7)) (LD 43 4)) (LD 21 9)))) (ND 7 (ND 8 (ND 4 (ND 7 (LD 36 8) (LD 58 9)) (LD 35 7)) (LD 8 4)) (LD 59 9))) (ND 6 (ND 2 (ND 5 (ND 6 (LD 40 2) (LD 18 7)) (LD 39 6)) (ND 4 (ND 7 (LD 33 8) (LD 17 9)) (LD 32 7))) (LD 18 7))) (ND 4 (ND 7 (ND 8 (ND 4 (LD 46 7) (ND 7 (LD 55 8) (LD 59 9))) (LD 27 4)) (ND 9 (ND 9 (ND 9 (ND 9 (LD 51 9) (LD 58 9)) (LD 50 9)) (LD 15 9)) (LD 59 9))) (ND 7 (ND 8 (ND 4 (ND 7 (LD 55 8) (ND 9 (LD 60 9) (LD 21 9))) (LD 49 7)) (LD 43 4)) (ND 9 (ND 9 (ND 9 (LD 16 9) (LD 58 9)) (LD 15 9)) (LD 21 9))))))
def P9 : List (List Slot × (Nat × Nat × Nat) × List Nat) := [([⟨0, [1], 0⟩, ⟨0, [0], 1⟩, ⟨1, [0], 0⟩, ⟨1, [1], 1⟩, ⟨2, [0], 0⟩, ⟨2, [1], 1⟩], (3, 26, 28), [0]), ([⟨0, [1], 0⟩, ⟨0, [0], 1⟩, ⟨1, [0], 0⟩, ⟨1, [1], 1⟩, ⟨2, [0], 0⟩, ⟨2, [1], 1⟩], (3, 28, 26), [0])]
theorem hard9 : okH [[1, 2], [3, 4], [5, 4], [0, 6], [7, 7], [6, 6], [2, 7], [8, 9], [4, 4], [9, 9]] [1, 0, 0, 0, 1, 0, 1, 1, 0, 1] Q9 P9 = true := by decide +kernel
theorem hdl9 : dlOk [[1, 2], [3, 4], [5, 4], [0, 6], [7, 7], [6, 6], [2, 7], [8, 9], [4, 4], [9, 9]] [1, 0, 0, 0, 1, 0, 1, 1, 0, 1] 0 = true := by decide +kernel
def Q10 : TrD := (ND 0 (ND 1 (ND 3 (LD 0 0) (ND 4 (ND 5 (ND 7 (ND 4 (LD 4 5) (LD 18 6)) (ND 4 (LD 4 5) (LD 18 6))) (ND 8 (ND 6 (LD 19 9) (LD 17 10)) (LD 18 6))) (LD 18 6))) (ND 4 (ND 5 (ND 7 (ND 4 (LD 11 5) (LD 18 6)) (ND 4 (LD 11 5) (LD 18 6))) (ND 8 (ND 6 (LD 60 9) (ND 10 (LD 22 10) (LD 21 10))) (LD 59 6))) (ND 6 (ND 9 (ND 8 (LD 9 6) (LD 18 6)) (LD 8 8)) (ND 10 (ND 10 (LD 22 10) (LD 17 10)) (LD 21 10))))) (ND 2 (ND 5 (ND 7 (ND 4 (LD 24 5) (ND 6 (ND 9 (ND 8 (ND 6 (LD 28 9) (ND 10 (LD 33 10) (LD 21 10))) (LD 27 6)) (LD 15 8)) (ND 10 (ND 10 (ND 10 (LD 44 10) (LD 31 10)) (LD 43 10)) (LD 21 10)))) (ND 4 (ND 5 (ND 7 (ND 4 (LD 36 5) (LD 58 6)) (LD 35 4)) (LD 8 8)) (LD 59 6))) (ND 8 (ND 6 (ND 9 (ND 8 (LD 40 6) (LD 18 6)) (LD 39 8)) (ND 10 (ND 10 (LD 33 10) (LD 17 10)) (LD 32 10))) (LD 18 6))) (ND 5 (ND 7 (ND 4 (ND 5 (LD 46 7) (ND 8 (LD 55 6) (LD 59 6))) (LD 27 6)) (ND 4 (ND 5 (ND 7 (ND 4 (LD 51 5) (LD 58 6)) (LD 50 4)) (LD 15 8)) (LD 59 6))) (ND 8 (ND 6 (ND 9 (ND 8 (LD 55 6) (ND 6 (LD 60 9) (LD 21 10))) (LD 49 8)) (LD 43 10)) (ND 6 (ND 9 (ND 8 (LD 16 6) (LD 58 6)) (LD 15 8)) (LD 21 10))))))
def P10 : List (List Slot × (Nat × Nat × Nat) × List Nat) := [([⟨0, [1], 0⟩, ⟨0, [0], 1⟩, ⟨1, [0], 0⟩, ⟨1, [1], 1⟩, ⟨2, [0], 0⟩, ⟨2, [1], 1⟩], (3, 26, 28), [1]), ([⟨0, [1], 0⟩, ⟨0, [0], 1⟩, ⟨1, [0], 0⟩, ⟨1, [1], 1⟩, ⟨2, [0], 0⟩, ⟨2, [1], 1⟩], (3, 28, 26), [1])]
theorem hard10 : okH [[1, 2], [3, 4], [5, 5], [0, 4], [5, 6], [7, 8], [9, 10], [4, 4], [6, 6], [8, 8], [10, 10]] [0, 0, 1, 0, 1, 0, 1, 0, 1, 0, 1] Q10 P10 = true := by decide +kernel
theorem hdl10 : dlOk [[1, 2], [3, 4], [5, 5], [0, 4], [5, 6], [7, 8], [9, 10], [4, 4], [6, 6], [8, 8], [10, 10]] [0, 0, 1, 0, 1, 0, 1, 0, 1, 0, 1] 0 = true := by decide +kernel
def Q11 : TrD := (ND 0 (ND 1 (ND 3 (LD 0 0) (ND 0 (ND 1 (ND 3 (ND 0 (LD 4 1) (LD 18 2)) (ND 0 (LD 4 1) (LD 18 2))) (ND 4 (ND 2 (LD 19 5) (LD 17 6)) (LD 18 2))) (LD 18 2))) (ND 4 (ND 2 (ND 5 (ND 4 (LD 11 2) (LD 18 2)) (ND 4 (LD 11 2) (LD 18 2))) (ND 6 (ND 6 (LD 60 6) (ND 6 (LD 22 6) (LD 21 6))) (LD 59 6))) (ND 2 (ND 5 (ND 4 (LD 9 2) (LD 18 2)) (LD 8 4)) (ND 6 (ND 6 (LD 22 6) (LD 17 6)) (LD 21 6))))) (ND 2 (ND 5 (ND 4 (ND 2 (LD 24 5) (ND 6 (ND 6 (ND 6 (ND 6 (LD 28 6) (ND 6 (LD 33 6) (LD 21 6))) (LD 27 6)) (LD 15 6)) (ND 6 (ND 6 (ND 6 (LD 44 6) (LD 31 6)) (LD 43 6)) (LD 21 6)))) (ND 2 (ND 5 (ND 4 (ND 2 (LD 36 5) (LD 58 6)) (LD 35 2)) (LD 8 4)) (LD 59 6))) (ND 4 (ND 2 (ND 5 (ND 4 (LD 40 2) (LD 18 2)) (LD 39 4)) (ND 6 (ND 6 (LD 33 6) (LD 17 6)) (LD 32 6))) (LD 18 2))) (ND 6 (ND 6 (ND 6 (ND 6 (LD 46 6) (ND 6 (LD 55 6) (LD 59 6))) (LD 27 6)) (ND 6 (ND 6 (ND 6 (ND 6 (LD 51 6) (LD 58 6)) (LD 50 6)) (LD 15 6)) (LD 59 6))) (ND 6 (ND 6 (ND 6 (ND 6 (LD 55 6) (ND 6 (LD 60 6) (LD 21 6))) (LD 49 6)) (LD 43 6)) (ND 6 (ND 6 (ND 6 (LD 16 6) (LD 58 6)) (LD 15 6)) (LD 21 6))))))
def P11 : List (List Slot × (Nat × Nat × Nat) × List Nat) := [([⟨0, [1], 0⟩, ⟨0, [0], 1⟩, ⟨1, [0], 0⟩, ⟨1, [1], 1⟩, ⟨2, [0], 0⟩, ⟨2, [1], 1⟩], (3, 26, 28), [0, 1]), ([⟨0, [1], 0⟩, ⟨0, [0], 1⟩, ⟨1, [0], 0⟩, ⟨1, [1], 1⟩, ⟨2, [0], 0⟩, ⟨2, [1], 1⟩], (3, 28, 26), [0, 1])]
theorem hard11 : okH [[1, 2], [3, 4], [5, 6], [0, 0], [2, 2], [4, 4], [6, 6]] [1, 0, 1, 0, 1, 0, 1] Q11 P11 = true := by decide +kernel
theorem hdl11 : dlOk [[1, 2], [3, 4], [5, 6], [0, 0], [2, 2], [4, 4], [6, 6]] [1, 0, 1, 0, 1, 0, 1] 0 = true := by decide +kernel
def Q12 : TrD := (ND 0 (ND 1 (ND 2 (ND 4 (LD 1 1) (ND 5 (ND 6 (ND 3 (ND 5 (LD 5 6) (LD 58 7)) (LD 38 5)) (LD 13 3)) (LD 58 7))) (ND 4 (ND 1 (ND 2 (ND 4 (LD 9 1) (LD 22 5)) (ND 4 (LD 9 1) (LD 22 5))) (ND 3 (ND 5 (LD 23 6) (LD 25 7)) (LD 22 5))) (LD 22 5))) (ND 3 (ND 5 (ND 6 (ND 3 (LD 16 5) (LD 22 5)) (ND 3 (LD 16 5) (LD 22 5))) (ND 7 (ND 7 (LD 59 7) (LD 25 7)) (LD 58 7))) (ND 5 (ND 6 (ND 3 (LD 14 5) (LD 22 5)) (LD 13 3)) (ND 7 (ND 7 (LD 26 7) (LD 25 7)) (LD 25 7))))) (ND 1 (ND 2 (ND 4 (ND 1 (LD 28 2) (ND 3 (ND 5 (ND 6 (ND 3 (LD 32 5) (LD 35 5)) (LD 31 3)) (LD 20 7)) (ND 5 (ND 6 (ND 3 (LD 44 5) (LD 35 5)) (LD 43 3)) (LD 25 7)))) (ND 5 (LD 5 6) (LD 58 7))) (ND 4 (ND 1 (ND 2 (ND 4 (LD 40 1) (LD 22 5)) (LD 39 4)) (ND 3 (ND 5 (LD 36 6) (LD 25 7)) (LD 35 5))) (LD 22 5))) (ND 3 (ND 5 (ND 6 (ND 3 (LD 46 5) (ND 5 (LD 55 6) (LD 58 7))) (LD 31 3)) (ND 7 (ND 7 (ND 7 (ND 7 (LD 51 7) (LD 58 7)) (LD 50 7)) (LD 20 7)) (LD 58 7))) (ND 5 (ND 6 (ND 3 (ND 5 (LD 55 6) (LD 58 7)) (LD 49 5)) (LD 43 3)) (ND 7 (ND 7 (ND 7 (LD 21 7) (LD 58 7)) (LD 20 7)) (LD 25 7))))))
def P12 : List (List Slot × (Nat × Nat × Nat) × List Nat) := [([⟨0, [1], 0⟩, ⟨0, [0], 1⟩, ⟨1, [0], 0⟩, ⟨1, [1], 1⟩, ⟨2, [0], 0⟩, ⟨2, [1], 1⟩], (3, 22, 26), [0]), ([⟨0, [1], 0⟩, ⟨0, [0], 1⟩, ⟨1, [0], 0⟩, ⟨1, [1], 1⟩, ⟨2, [0], 0⟩, ⟨2, [1], 1⟩], (3, 26, 22), [0])]
theorem hard12 : okH [[1, 1], [2, 3], [4, 4], [5, 5], [1, 5], [6, 7], [3, 3], [7, 7]] [1, 0, 0, 1, 1, 1, 0, 1] Q12 P12 = true := by decide +kernel
theorem hdl12 : dlOk [[1, 1], [2, 3], [4, 4], [5, 5], [1, 5], [6, 7], [3, 3], [7, 7]] [1, 0, 0, 1, 1, 1, 0, 1] 0 = true := by decide +kernel
def Q13 : TrD := (ND 0 (ND 1 (ND 1 (ND 1 (LD 1 1) (ND 3 (ND 4 (ND 6 (ND 3 (LD 5 4) (LD 58 5)) (LD 38 3)) (LD 13 7)) (LD 58 5))) (ND 3 (ND 4 (ND 6 (ND 3 (LD 9 4) (LD 22 5)) (ND 3 (LD 9 4) (LD 22 5))) (ND 7 (ND 5 (LD 23 8) (LD 25 9)) (LD 22 5))) (LD 22 5))) (ND 3 (ND 4 (ND 6 (ND 3 (LD 16 4) (LD 22 5)) (ND 3 (LD 16 4) (LD 22 5))) (ND 7 (ND 5 (LD 59 8) (LD 25 9)) (LD 58 5))) (ND 5 (ND 8 (ND 7 (LD 14 5) (LD 22 5)) (LD 13 7)) (ND 9 (ND 9 (LD 26 9) (LD 25 9)) (LD 25 9))))) (ND 2 (ND 4 (ND 6 (ND 3 (LD 28 4) (ND 5 (ND 8 (ND 7 (ND 5 (LD 32 8) (LD 35 9)) (LD 31 5)) (LD 20 7)) (ND 9 (ND 9 (ND 9 (LD 44 9) (LD 35 9)) (LD 43 9)) (LD 25 9)))) (ND 3 (LD 5 4) (LD 58 5))) (ND 7 (ND 5 (ND 8 (ND 7 (LD 40 5) (LD 22 5)) (LD 39 7)) (ND 9 (ND 9 (LD 36 9) (LD 25 9)) (LD 35 9))) (LD 22 5))) (ND 4 (ND 6 (ND 3 (ND 4 (LD 46 6) (ND 7 (LD 55 5) (LD 58 5))) (LD 31 5)) (ND 3 (ND 4 (ND 6 (ND 3 (LD 51 4) (LD 58 5)) (LD 50 3)) (LD 20 7)) (LD 58 5))) (ND 7 (ND 5 (ND 8 (ND 7 (LD 55 5) (LD 58 5)) (LD 49 7)) (LD 43 9)) (ND 5 (ND 8 (ND 7 (LD 21 5) (LD 58 5)) (LD 20 7)) (LD 25 9))))))
def P13 : List (List Slot × (Nat × Nat × Nat) × List Nat) := [([⟨0, [1], 0⟩, ⟨0, [0], 1⟩, ⟨1, [0], 0⟩, ⟨1, [1], 1⟩, ⟨2, [0], 0⟩, ⟨2, [1], 1⟩], (3, 22, 26), [1]), ([⟨0, [1], 0⟩, ⟨0, [0], 1⟩, ⟨1, [0], 0⟩, ⟨1, [1], 1⟩, ⟨2, [0], 0⟩, ⟨2, [1], 1⟩], (3, 26, 22), [1])]
theorem hard13 : okH [[1, 2], [1, 3], [4, 4], [4, 5], [6, 7], [8, 9], [3, 3], [5, 5], [7, 7], [9, 9]] [0, 0, 1, 1, 0, 1, 0, 1, 0, 1] Q13 P13 = true := by decide +kernel
theorem hdl13 : dlOk [[1, 2], [1, 3], [4, 4], [4, 5], [6, 7], [8, 9], [3, 3], [5, 5], [7, 7], [9, 9]] [0, 0, 1, 1, 0, 1, 0, 1, 0, 1] 0 = true := by decide +kernel
def Q14 : TrD := (ND 0 (ND 1 (ND 3 (ND 0 (LD 1 1) (ND 2 (ND 5 (ND 4 (ND 2 (LD 5 5) (LD 58 6)) (LD 38 2)) (LD 13 4)) (LD 58 6))) (ND 0 (ND 1 (ND 3 (ND 0 (LD 9 1) (LD 22 2)) (ND 0 (LD 9 1) (LD 22 2))) (ND 4 (ND 2 (LD 23 5) (LD 25 6)) (LD 22 2))) (LD 22 2))) (ND 4 (ND 2 (ND 5 (ND 4 (LD 16 2) (LD 22 2)) (ND 4 (LD 16 2) (LD 22 2))) (ND 6 (ND 6 (LD 59 6) (LD 25 6)) (LD 58 6))) (ND 2 (ND 5 (ND 4 (LD 14 2) (LD 22 2)) (LD 13 4)) (ND 6 (ND 6 (LD 26 6) (LD 25 6)) (LD 25 6))))) (ND 2 (ND 5 (ND 4 (ND 2 (LD 28 5) (ND 6 (ND 6 (ND 6 (ND 6 (LD 32 6) (LD 35 6)) (LD 31 6)) (LD 20 6)) (ND 6 (ND 6 (ND 6 (LD 44 6) (LD 35 6)) (LD 43 6)) (LD 25 6)))) (ND 2 (LD 5 5) (LD 58 6))) (ND 4 (ND 2 (ND 5 (ND 4 (LD 40 2) (LD 22 2)) (LD 39 4)) (ND 6 (ND 6 (LD 36 6) (LD 25 6)) (LD 35 6))) (LD 22 2))) (ND 6 (ND 6 (ND 6 (ND 6 (LD 46 6) (ND 6 (LD 55 6) (LD 58 6))) (LD 31 6)) (ND 6 (ND 6 (ND 6 (ND 6 (LD 51 6) (LD 58 6)) (LD 50 6)) (LD 20 6)) (LD 58 6))) (ND 6 (ND 6 (ND 6 (ND 6 (LD 55 6) (LD 58 6)) (LD 49 6)) (LD 43 6)) (ND 6 (ND 6 (ND 6 (LD 21 6) (LD 58 6)) (LD 20 6)) (LD 25 6))))))
def P14 : List (List Slot × (Nat × Nat × Nat) × List Nat) := [([⟨0, [1], 0⟩, ⟨0, [0], 1⟩, ⟨1, [0], 0⟩, ⟨1, [1], 1⟩, ⟨2, [0], 0⟩, ⟨2, [1], 1⟩], (3, 22, 26), [0, 1]), ([⟨0, [1], 0⟩, ⟨0, [0], 1⟩, ⟨1, [0], 0⟩, ⟨1, [1], 1⟩, ⟨2, [0], 0⟩, ⟨2, [1], 1⟩], (3, 26, 22), [0, 1])]
theorem hard14 : okH [[1, 2], [3, 4], [5, 6], [0, 0], [2, 2], [4, 4], [6, 6]] [1, 0, 1, 0, 1, 0, 1] Q14 P14 = true := by decide +kernel
theorem hdl14 : dlOk [[1, 2], [3, 4], [5, 6], [0, 0], [2, 2], [4, 4], [6, 6]] [1, 0, 1, 0, 1, 0, 1] 0 = true := by decide +kernel
def Q15 : TrD := (ND 0 (ND 1 (ND 2 (ND 4 (ND 6 (LD 41 6) (ND 6 (LD 48 6) (ND 6 (LD 4 6) (LD 49 6)))) (ND 7 (ND 2 (ND 4 (LD 41 6) (ND 7 (LD 8 2) (ND 2 (LD 9 4) (LD 12 4)))) (ND 4 (LD 41 6) (LD 10 7))) (ND 2 (ND 4 (LD 4 6) (LD 7 7)) (ND 4 (LD 4 6) (LD 7 7))))) (ND 4 (ND 6 (LD 4 6) (ND 6 (LD 48 6) (ND 6 (LD 17 6) (ND 6 (LD 4 6) (LD 18 6))))) (ND 7 (ND 2 (LD 9 4) (ND 4 (LD 48 6) (ND 7 (LD 22 2) (ND 2 (LD 9 4) (LD 23 4))))) (ND 2 (LD 14 4) (LD 16 4))))) (ND 3 (ND 5 (LD 40 4) (ND 1 (LD 8 2) (ND 3 (LD 28 5) (ND 5 (LD 40 4) (LD 29 1))))) (ND 5 (ND 4 (LD 4 6) (ND 7 (LD 44 2) (ND 2 (LD 33 4) (ND 4 (LD 4 6) (LD 34 7))))) (ND 1 (LD 22 2) (LD 27 3))))) (ND 1 (ND 2 (ND 4 (ND 6 (LD 41 6) (ND 6 (LD 41 6) (LD 42 6))) (ND 7 (ND 2 (LD 40 4) (ND 4 (LD 41 6) (LD 43 7))) (ND 2 (LD 40 4) (LD 45 4)))) (ND 4 (ND 6 (LD 4 6) (ND 6 (LD 41 6) (LD 5 6))) (ND 7 (ND 2 (LD 40 4) (LD 47 4)) (ND 2 (LD 40 4) (LD 47 4))))) (ND 3 (ND 5 (LD 40 4) (ND 1 (LD 44 2) (ND 3 (ND 5 (LD 40 4) (LD 55 1)) (ND 5 (LD 40 4) (LD 55 1))))) (ND 5 (ND 4 (LD 4 6) (LD 34 7)) (LD 38 1)))))
def P15 : List (List Slot × (Nat × Nat × Nat) × List Nat) := [([⟨0, [1], 0⟩, ⟨0, [0], 1⟩, ⟨1, [0], 0⟩, ⟨1, [1], 1⟩, ⟨2, [0], 0⟩, ⟨2, [1], 1⟩], (11, 20, 26), [0]), ([⟨0, [1], 0⟩, ⟨0, [0], 1⟩, ⟨1, [0], 0⟩, ⟨1, [1], 1⟩, ⟨2, [0], 0⟩, ⟨2, [1], 1⟩], (11, 26, 20), [0])]
theorem hard15 : okH [[1, 1], [2, 3], [4, 4], [5, 5], [6, 7], [4, 1], [6, 6], [2, 2]] [1, 0, 1, 0, 1, 1, 1, 0] Q15 P15 = true := by decide +kernel
theorem hdl15 : dlOk [[1, 1], [2, 3], [4, 4], [5, 5], [6, 7], [4, 1], [6, 6], [2, 2]] [1, 0, 1, 0, 1, 1, 1, 0] 0 = true := by decide +kernel
def Q16 : TrD := (ND 0 (ND 1 (ND 3 (ND 5 (ND 7 (LD 41 8) (ND 9 (LD 48 5) (ND 5 (LD 4 7) (LD 49 7)))) (ND 7 (ND 8 (ND 8 (LD 41 8) (ND 8 (LD 8 8) (ND 8 (LD 9 8) (LD 12 8)))) (ND 8 (LD 41 8) (LD 10 8))) (ND 9 (ND 5 (LD 4 7) (LD 7 7)) (ND 5 (LD 4 7) (LD 7 7))))) (ND 6 (ND 4 (LD 4 7) (ND 3 (LD 48 5) (ND 6 (LD 17 4) (ND 4 (LD 4 7) (LD 18 3))))) (ND 4 (ND 7 (LD 9 8) (ND 9 (LD 48 5) (ND 5 (LD 22 7) (ND 7 (LD 9 8) (LD 23 9))))) (ND 3 (LD 14 5) (LD 16 6))))) (ND 3 (ND 5 (LD 40 7) (ND 7 (LD 8 8) (ND 9 (LD 28 5) (ND 5 (LD 40 7) (LD 29 7))))) (ND 6 (ND 4 (LD 4 7) (ND 3 (LD 44 5) (ND 6 (LD 33 4) (ND 4 (LD 4 7) (LD 34 3))))) (ND 4 (LD 22 7) (LD 27 3))))) (ND 2 (ND 4 (ND 7 (ND 8 (LD 41 8) (ND 8 (LD 41 8) (LD 42 8))) (ND 9 (ND 5 (LD 40 7) (ND 7 (LD 41 8) (LD 43 9))) (ND 5 (LD 40 7) (LD 45 7)))) (ND 3 (ND 5 (LD 4 7) (ND 7 (LD 41 8) (LD 5 9))) (ND 6 (ND 4 (LD 40 7) (LD 47 3)) (ND 4 (LD 40 7) (LD 47 3))))) (ND 2 (ND 4 (LD 40 7) (ND 3 (LD 44 5) (ND 6 (ND 4 (LD 40 7) (LD 55 3)) (ND 4 (LD 40 7) (LD 55 3))))) (ND 2 (ND 4 (LD 4 7) (LD 34 3)) (LD 38 2)))))
def P16 : List (List Slot × (Nat × Nat × Nat) × List Nat) := [([⟨0, [1], 0⟩, ⟨0, [0], 1⟩, ⟨1, [0], 0⟩, ⟨1, [1], 1⟩, ⟨2, [0], 0⟩, ⟨2, [1], 1⟩], (11, 20, 26), [1]), ([⟨0, [1], 0⟩, ⟨0, [0], 1⟩, ⟨1, [0], 0⟩, ⟨1, [1], 1⟩, ⟨2, [0], 0⟩, ⟨2, [1], 1⟩], (11, 26, 20), [1])]
theorem hard16 : okH [[1, 2], [3, 3], [4, 2], [5, 6], [7, 3], [7, 7], [4, 4], [8, 9], [8, 8], [5, 5]] [0, 1, 0, 0, 1, 1, 0, 1, 1, 0] Q16 P16 = true := by decide +kernel
theorem hdl16 : dlOk [[1, 2], [3, 3], [4, 2], [5, 6], [7, 3], [7, 7], [4, 4], [8, 9], [8, 8], [5, 5]] [0, 1, 0, 0, 1, 1, 0, 1, 1, 0] 0 = true := by decide +kernel
def Q17 : TrD := (ND 0 (ND 1 (ND 3 (ND 3 (ND 3 (LD 41 3) (ND 3 (LD 48 3) (ND 3 (LD 4 3) (LD 49 3)))) (ND 3 (ND 3 (ND 3 (LD 41 3) (ND 3 (LD 8 3) (ND 3 (LD 9 3) (LD 12 3)))) (ND 3 (LD 41 3) (LD 10 3))) (ND 3 (ND 3 (LD 4 3) (LD 7 3)) (ND 3 (LD 4 3) (LD 7 3))))) (ND 3 (ND 3 (LD 4 3) (ND 3 (LD 48 3) (ND 3 (LD 17 3) (ND 3 (LD 4 3) (LD 18 3))))) (ND 3 (ND 3 (LD 9 3) (ND 3 (LD 48 3) (ND 3 (LD 22 3) (ND 3 (LD 9 3) (LD 23 3))))) (ND 3 (LD 14 3) (LD 16 3))))) (ND 4 (ND 5 (LD 40 1) (ND 1 (LD 8 3) (ND 4 (LD 28 5) (ND 5 (LD 40 1) (LD 29 1))))) (ND 5 (ND 1 (LD 4 3) (ND 4 (LD 44 5) (ND 5 (LD 33 1) (ND 1 (LD 4 3) (LD 34 4))))) (ND 1 (LD 22 3) (LD 27 4))))) (ND 2 (ND 5 (ND 1 (ND 3 (LD 41 3) (ND 3 (LD 41 3) (LD 42 3))) (ND 4 (ND 5 (LD 40 1) (ND 1 (LD 41 3) (LD 43 4))) (ND 5 (LD 40 1) (LD 45 1)))) (ND 1 (ND 3 (LD 4 3) (ND 3 (LD 41 3) (LD 5 3))) (ND 4 (ND 5 (LD 40 1) (LD 47 1)) (ND 5 (LD 40 1) (LD 47 1))))) (ND 6 (ND 0 (LD 40 1) (ND 2 (LD 44 5) (ND 6 (ND 0 (LD 40 1) (LD 55 2)) (ND 0 (LD 40 1) (LD 55 2))))) (ND 0 (ND 1 (LD 4 3) (LD 34 4)) (LD 38 2)))))
def P17 : List (List Slot × (Nat × Nat × Nat) × List Nat) := [([⟨0, [1], 0⟩, ⟨0, [0], 1⟩, ⟨1, [0], 0⟩, ⟨1, [1], 1⟩, ⟨2, [0], 0⟩, ⟨2, [1], 1⟩], (11, 20, 26), [0, 1]), ([⟨0, [1], 0⟩, ⟨0, [0], 1⟩, ⟨1, [0], 0⟩, ⟨1, [1], 1⟩, ⟨2, [0], 0⟩, ⟨2, [1], 1⟩], (11, 26, 20), [0, 1])]
theorem hard17 : okH [[1, 2], [3, 4], [5, 6], [3, 3], [5, 5], [1, 1], [0, 0]] [1, 1, 0, 1, 0, 1, 0] Q17 P17 = true := by decide +kernel
theorem hdl17 : dlOk [[1, 2], [3, 4], [5, 6], [3, 3], [5, 5], [1, 1], [0, 0]] [1, 1, 0, 1, 0, 1, 0] 0 = true := by decide +kernel
theorem hardT34 : ∀ h ∈ H34, ∀ en, (en = [0] ∨ en = [1] ∨ en = [0, 1]) → Few 2 (lgN (nfL (fun p l a b => knx (place3 h.1 h.2.1 h.2.2 p) l a b) (fun p a => kfin (place3 h.1 h.2.1 h.2.2 p) a) [⟨0, [0, 1], 0⟩, ⟨1, [1], 0⟩, ⟨1, [0], 1⟩, ⟨2, [0], 0⟩, ⟨2, [1], 1⟩]) en) := by
  intro h hh en he
  unfold H34 at hh
  simp only [List.mem_cons, List.not_mem_nil, or_false] at hh
  rcases hh with rfl | rfl <;> rcases he with rfl | rfl | rfl
  · exact few_hard hard0 hdl0 (by decide) (by decide)
  · exact few_hard hard1 hdl1 (by decide) (by decide)
  · exact few_hard hard2 hdl2 (by decide) (by decide)
  · exact few_hard hard3 hdl3 (by decide) (by decide)
  · exact few_hard hard4 hdl4 (by decide) (by decide)
  · exact few_hard hard5 hdl5 (by decide) (by decide)
theorem hardT35 : ∀ h ∈ H35, ∀ en, (en = [0] ∨ en = [1] ∨ en = [0, 1]) → Few 2 (lgN (nfL (fun p l a b => knx (place3 h.1 h.2.1 h.2.2 p) l a b) (fun p a => kfin (place3 h.1 h.2.1 h.2.2 p) a) [⟨0, [1], 0⟩, ⟨0, [0], 1⟩, ⟨1, [1], 0⟩, ⟨1, [0], 1⟩, ⟨2, [0], 0⟩, ⟨2, [1], 1⟩]) en) := by
  intro h hh en he
  unfold H35 at hh
  simp only [List.mem_cons, List.not_mem_nil, or_false] at hh
  rcases hh with rfl | rfl | rfl | rfl | rfl | rfl | rfl | rfl <;> rcases he with rfl | rfl | rfl
  · exact few_hard hard0 hdl0 (by decide) (by decide)
  · exact few_hard hard1 hdl1 (by decide) (by decide)
  · exact few_hard hard2 hdl2 (by decide) (by decide)
  · exact few_hard hard0 hdl0 (by decide) (by decide)
  · exact few_hard hard1 hdl1 (by decide) (by decide)
  · exact few_hard hard2 hdl2 (by decide) (by decide)
  · exact few_hard hard0 hdl0 (by decide) (by decide)
  · exact few_hard hard1 hdl1 (by decide) (by decide)
  · exact few_hard hard2 hdl2 (by decide) (by decide)
  · exact few_hard hard3 hdl3 (by decide) (by decide)
  · exact few_hard hard4 hdl4 (by decide) (by decide)
  · exact few_hard hard5 hdl5 (by decide) (by decide)
  · exact few_hard hard3 hdl3 (by decide) (by decide)
  · exact few_hard hard4 hdl4 (by decide) (by decide)
  · exact few_hard hard5 hdl5 (by decide) (by decide)
  · exact few_hard hard3 hdl3 (by decide) (by decide)
  · exact few_hard hard4 hdl4 (by decide) (by decide)
  · exact few_hard hard5 hdl5 (by decide) (by decide)
  · exact few_hard hard3 hdl3 (by decide) (by decide)
  · exact few_hard hard4 hdl4 (by decide) (by decide)
  · exact few_hard hard5 hdl5 (by decide) (by decide)
  · exact few_hard hard3 hdl3 (by decide) (by decide)
  · exact few_hard hard4 hdl4 (by decide) (by decide)
  · exact few_hard hard5 hdl5 (by decide) (by decide)
theorem hardT49 : ∀ h ∈ H49, ∀ en, (en = [0] ∨ en = [1] ∨ en = [0, 1]) → Few 2 (lgN (nfL (fun p l a b => knx (place3 h.1 h.2.1 h.2.2 p) l a b) (fun p a => kfin (place3 h.1 h.2.1 h.2.2 p) a) [⟨0, [1], 0⟩, ⟨0, [0], 1⟩, ⟨1, [0], 0⟩, ⟨1, [1], 1⟩, ⟨2, [0], 0⟩, ⟨2, [1], 1⟩]) en) := by
  intro h hh en he
  unfold H49 at hh
  simp only [List.mem_cons, List.not_mem_nil, or_false] at hh
  rcases hh with rfl | rfl | rfl | rfl | rfl | rfl | rfl | rfl | rfl | rfl | rfl | rfl | rfl | rfl | rfl | rfl | rfl | rfl <;> rcases he with rfl | rfl | rfl
  · exact few_hard hard0 hdl0 (by decide) (by decide)
  · exact few_hard hard1 hdl1 (by decide) (by decide)
  · exact few_hard hard2 hdl2 (by decide) (by decide)
  · exact few_hard hard0 hdl0 (by decide) (by decide)
  · exact few_hard hard1 hdl1 (by decide) (by decide)
  · exact few_hard hard2 hdl2 (by decide) (by decide)
  · exact few_hard hard0 hdl0 (by decide) (by decide)
  · exact few_hard hard1 hdl1 (by decide) (by decide)
  · exact few_hard hard2 hdl2 (by decide) (by decide)
  · exact few_hard hard0 hdl0 (by decide) (by decide)
  · exact few_hard hard1 hdl1 (by decide) (by decide)
  · exact few_hard hard2 hdl2 (by decide) (by decide)
  · exact few_hard hard0 hdl0 (by decide) (by decide)
  · exact few_hard hard1 hdl1 (by decide) (by decide)
  · exact few_hard hard2 hdl2 (by decide) (by decide)
  · exact few_hard hard3 hdl3 (by decide) (by decide)
  · exact few_hard hard4 hdl4 (by decide) (by decide)
  · exact few_hard hard5 hdl5 (by decide) (by decide)
  · exact few_hard hard3 hdl3 (by decide) (by decide)
  · exact few_hard hard4 hdl4 (by decide) (by decide)
  · exact few_hard hard5 hdl5 (by decide) (by decide)
  · exact few_hard hard3 hdl3 (by decide) (by decide)
  · exact few_hard hard4 hdl4 (by decide) (by decide)
  · exact few_hard hard5 hdl5 (by decide) (by decide)
  · exact few_hard hard3 hdl3 (by decide) (by decide)
  · exact few_hard hard4 hdl4 (by decide) (by decide)
  · exact few_hard hard5 hdl5 (by decide) (by decide)
  · exact few_hard hard3 hdl3 (by decide) (by decide)
  · exact few_hard hard4 hdl4 (by decide) (by decide)
  · exact few_hard hard5 hdl5 (by decide) (by decide)
  · exact few_hard hard6 hdl6 (by decide) (by decide)
  · exact few_hard hard7 hdl7 (by decide) (by decide)
  · exact few_hard hard8 hdl8 (by decide) (by decide)
  · exact few_hard hard6 hdl6 (by decide) (by decide)
  · exact few_hard hard7 hdl7 (by decide) (by decide)
  · exact few_hard hard8 hdl8 (by decide) (by decide)
  · exact few_hard hard9 hdl9 (by decide) (by decide)
  · exact few_hard hard10 hdl10 (by decide) (by decide)
  · exact few_hard hard11 hdl11 (by decide) (by decide)
  · exact few_hard hard9 hdl9 (by decide) (by decide)
  · exact few_hard hard10 hdl10 (by decide) (by decide)
  · exact few_hard hard11 hdl11 (by decide) (by decide)
  · exact few_hard hard12 hdl12 (by decide) (by decide)
  · exact few_hard hard13 hdl13 (by decide) (by decide)
  · exact few_hard hard14 hdl14 (by decide) (by decide)
  · exact few_hard hard12 hdl12 (by decide) (by decide)
  · exact few_hard hard13 hdl13 (by decide) (by decide)
  · exact few_hard hard14 hdl14 (by decide) (by decide)
  · exact few_hard hard15 hdl15 (by decide) (by decide)
  · exact few_hard hard16 hdl16 (by decide) (by decide)
  · exact few_hard hard17 hdl17 (by decide) (by decide)
  · exact few_hard hard15 hdl15 (by decide) (by decide)
  · exact few_hard hard16 hdl16 (by decide) (by decide)
  · exact few_hard hard17 hdl17 (by decide) (by decide)
theorem hardT53 : ∀ h ∈ H53, ∀ en, (en = [0] ∨ en = [1] ∨ en = [0, 1]) → Few 2 (lgN (nfL (fun p l a b => knx (place3 h.1 h.2.1 h.2.2 p) l a b) (fun p a => kfin (place3 h.1 h.2.1 h.2.2 p) a) [⟨0, [1], 0⟩, ⟨0, [0], 1⟩, ⟨1, [0], 0⟩, ⟨1, [1], 1⟩, ⟨2, [0, 1], 1⟩]) en) := by
  intro h hh en he
  unfold H53 at hh
  simp only [List.mem_cons, List.not_mem_nil, or_false] at hh
  rcases hh with rfl | rfl <;> rcases he with rfl | rfl | rfl
  · exact few_hard hard0 hdl0 (by decide) (by decide)
  · exact few_hard hard1 hdl1 (by decide) (by decide)
  · exact few_hard hard2 hdl2 (by decide) (by decide)
  · exact few_hard hard3 hdl3 (by decide) (by decide)
  · exact few_hard hard4 hdl4 (by decide) (by decide)
  · exact few_hard hard5 hdl5 (by decide) (by decide)
end K81L
end
section
set_option Elab.async false
set_option linter.all false
set_option maxRecDepth 100000
/-! printed by gen_few.py: few residuals, table by table -/
namespace K81L
open K81M
open Classical in
theorem few_nil {J : Type} {N : Nf J} : Few 2 (lgN N []) := by
  refine ⟨[lgN N []], Nat.le_of_ble_eq_true rfl, List.mem_cons_self, fun M hM l hl => ?_⟩
  rw [List.mem_singleton.mp hM]
  refine List.mem_singleton.mpr ?_
  have e : ∀ S : Tk J → Prop, ¬ accK [] S := fun S => by rintro ⟨q, h, _⟩; cases h
  unfold lgN
  rw [clip_der _ hl]
  congr 1
  funext w
  rw [decide_eq_false (e _), decide_eq_false (e _)]
abbrev laneN (t0 t1 t2 : Nat) (sl : List Slot) : Nf Slot := nfL (fun p l a b => knx (place3 t0 t1 t2 p) l a b) (fun p a => kfin (place3 t0 t1 t2 p) a) sl
def slotsC (p : Nat) : Nat → List Slot
  | 0 => [⟨p, [0, 1], 0⟩]
  | 1 => [⟨p, [1], 0⟩, ⟨p, [0], 1⟩]
  | 2 => [⟨p, [0], 0⟩, ⟨p, [1], 1⟩]
  | _ => [⟨p, [0, 1], 1⟩]
def slots3 (c0 c1 c2 : Nat) : List Slot := slotsC 0 c0 ++ (slotsC 1 c1 ++ slotsC 2 c2)
def slotsCh : List Slot := [⟨0, [0], 1⟩, ⟨1, [1], 2⟩, ⟨2, [2], 3⟩]
def En4 (en : List Nat) : Prop := en = [] ∨ en = [0] ∨ en = [1] ∨ en = [0, 1]
section
variable {t0 t1 t2 : Nat} (h0 : t0 < 29) (h1 : t1 < 29) (h2 : t2 < 29) {en : List Nat}
include h0 h1 h2
theorem fewS0 (he : En4 en) : Few 2 (lgN (laneN t0 t1 t2 [⟨0, [0, 1], 0⟩, ⟨1, [0, 1], 0⟩, ⟨2, [0, 1], 0⟩]) en) := by
  rcases few_lane (sl := [⟨0, [0, 1], 0⟩, ⟨1, [0, 1], 0⟩, ⟨2, [0, 1], 0⟩]) (by decide) small0 lanes0 (by decide) h0 h1 h2 with h | h
  · cases h
  · exact h en
theorem fewS4 (he : En4 en) : Few 2 (lgN (laneN t0 t1 t2 [⟨0, [0, 1], 0⟩, ⟨1, [0, 1], 0⟩, ⟨2, [1], 0⟩, ⟨2, [0], 1⟩]) en) := by
  rcases few_lane (sl := [⟨0, [0, 1], 0⟩, ⟨1, [0, 1], 0⟩, ⟨2, [1], 0⟩, ⟨2, [0], 1⟩]) (by decide) small4 lanes4 (by decide) h0 h1 h2 with h | h
  · cases h
  · exact h en
theorem fewS6 (he : En4 en) : Few 2 (lgN (laneN t0 t1 t2 [⟨0, [0, 1], 0⟩, ⟨1, [1], 0⟩, ⟨1, [0], 1⟩, ⟨2, [1], 0⟩, ⟨2, [0], 1⟩]) en) := by
  rcases few_lane (sl := [⟨0, [0, 1], 0⟩, ⟨1, [1], 0⟩, ⟨1, [0], 1⟩, ⟨2, [1], 0⟩, ⟨2, [0], 1⟩]) (by decide) small6 lanes6 (by decide) h0 h1 h2 with h | h
  · cases h
  · exact h en
theorem fewS7 (he : En4 en) : Few 2 (lgN (laneN t0 t1 t2 [⟨0, [1], 0⟩, ⟨0, [0], 1⟩, ⟨1, [1], 0⟩, ⟨1, [0], 1⟩, ⟨2, [1], 0⟩, ⟨2, [0], 1⟩]) en) := by
  rcases few_lane (sl := [⟨0, [1], 0⟩, ⟨0, [0], 1⟩, ⟨1, [1], 0⟩, ⟨1, [0], 1⟩, ⟨2, [1], 0⟩, ⟨2, [0], 1⟩]) (by decide) small7 lanes7 (by decide) h0 h1 h2 with h | h
  · cases h
  · exact h en
theorem fewS32 (he : En4 en) : Few 2 (lgN (laneN t0 t1 t2 [⟨0, [0, 1], 0⟩, ⟨1, [0, 1], 0⟩, ⟨2, [0], 0⟩, ⟨2, [1], 1⟩]) en) := by
  rcases few_lane (sl := [⟨0, [0, 1], 0⟩, ⟨1, [0, 1], 0⟩, ⟨2, [0], 0⟩, ⟨2, [1], 1⟩]) (by decide) small32 lanes32 (by decide) h0 h1 h2 with h | h
  · cases h
  · exact h en
theorem fewS34 (he : En4 en) : Few 2 (lgN (laneN t0 t1 t2 [⟨0, [0, 1], 0⟩, ⟨1, [1], 0⟩, ⟨1, [0], 1⟩, ⟨2, [0], 0⟩, ⟨2, [1], 1⟩]) en) := by
  rcases few_lane (sl := [⟨0, [0, 1], 0⟩, ⟨1, [1], 0⟩, ⟨1, [0], 1⟩, ⟨2, [0], 0⟩, ⟨2, [1], 1⟩]) (by decide) small34 lanes34 (by decide) h0 h1 h2 with h | h
  · rcases he with rfl | he
    · exact few_nil
    · exact hardT34 _ h en he
  · exact h en
theorem fewS35 (he : En4 en) : Few 2 (lgN (laneN t0 t1 t2 [⟨0, [1], 0⟩, ⟨0, [0], 1⟩, ⟨1, [1], 0⟩, ⟨1, [0], 1⟩, ⟨2, [0], 0⟩, ⟨2, [1], 1⟩]) en) := by
  rcases few_lane (sl := [⟨0, [1], 0⟩, ⟨0, [0], 1⟩, ⟨1, [1], 0⟩, ⟨1, [0], 1⟩, ⟨2, [0], 0⟩, ⟨2, [1], 1⟩]) (by decide) small35 lanes35 (by decide) h0 h1 h2 with h | h
  · rcases he with rfl | he
    · exact few_nil
    · exact hardT35 _ h en he
  · exact h en
theorem fewS36 (he : En4 en) : Few 2 (lgN (laneN t0 t1 t2 [⟨0, [0, 1], 0⟩, ⟨1, [0, 1], 0⟩, ⟨2, [0, 1], 1⟩]) en) := by
  rcases few_lane (sl := [⟨0, [0, 1], 0⟩, ⟨1, [0, 1], 0⟩, ⟨2, [0, 1], 1⟩]) (by decide) small36 lanes36 (by decide) h0 h1 h2 with h | h
  · cases h
  · exact h en
theorem fewS38 (he : En4 en) : Few 2 (lgN (laneN t0 t1 t2 [⟨0, [0, 1], 0⟩, ⟨1, [1], 0⟩, ⟨1, [0], 1⟩, ⟨2, [0, 1], 1⟩]) en) := by
  rcases few_lane (sl := [⟨0, [0, 1], 0⟩, ⟨1, [1], 0⟩, ⟨1, [0], 1⟩, ⟨2, [0, 1], 1⟩]) (by decide) small38 lanes38 (by decide) h0 h1 h2 with h | h
  · cases h
  · exact h en
theorem fewS39 (he : En4 en) : Few 2 (lgN (laneN t0 t1 t2 [⟨0, [1], 0⟩, ⟨0, [0], 1⟩, ⟨1, [1], 0⟩, ⟨1, [0], 1⟩, ⟨2, [0, 1], 1⟩]) en) := by
  rcases few_lane (sl := [⟨0, [1], 0⟩, ⟨0, [0], 1⟩, ⟨1, [1], 0⟩, ⟨1, [0], 1⟩, ⟨2, [0, 1], 1⟩]) (by decide) small39 lanes39 (by decide) h0 h1 h2 with h | h
  · cases h
  · exact h en
theorem fewS48 (he : En4 en) : Few 2 (lgN (laneN t0 t1 t2 [⟨0, [0, 1], 0⟩, ⟨1, [0], 0⟩, ⟨1, [1], 1⟩, ⟨2, [0], 0⟩, ⟨2, [1], 1⟩]) en) := by
  rcases few_lane (sl := [⟨0, [0, 1], 0⟩, ⟨1, [0], 0⟩, ⟨1, [1], 1⟩, ⟨2, [0], 0⟩, ⟨2, [1], 1⟩]) (by decide) small48 lanes48 (by decide) h0 h1 h2 with h | h
  · cases h
  · exact h en
theorem fewS49 (he : En4 en) : Few 2 (lgN (laneN t0 t1 t2 [⟨0, [1], 0⟩, ⟨0, [0], 1⟩, ⟨1, [0], 0⟩, ⟨1, [1], 1⟩, ⟨2, [0], 0⟩, ⟨2, [1], 1⟩]) en) := by
  rcases few_lane (sl := [⟨0, [1], 0⟩, ⟨0, [0], 1⟩, ⟨1, [0], 0⟩, ⟨1, [1], 1⟩, ⟨2, [0], 0⟩, ⟨2, [1], 1⟩]) (by decide) small49 lanes49 (by decide) h0 h1 h2 with h | h
  · rcases he with rfl | he
    · exact few_nil
    · exact hardT49 _ h en he
  · exact h en
theorem fewS52 (he : En4 en) : Few 2 (lgN (laneN t0 t1 t2 [⟨0, [0, 1], 0⟩, ⟨1, [0], 0⟩, ⟨1, [1], 1⟩, ⟨2, [0, 1], 1⟩]) en) := by
  rcases few_lane (sl := [⟨0, [0, 1], 0⟩, ⟨1, [0], 0⟩, ⟨1, [1], 1⟩, ⟨2, [0, 1], 1⟩]) (by decide) small52 lanes52 (by decide) h0 h1 h2 with h | h
  · cases h
  · exact h en
theorem fewS53 (he : En4 en) : Few 2 (lgN (laneN t0 t1 t2 [⟨0, [1], 0⟩, ⟨0, [0], 1⟩, ⟨1, [0], 0⟩, ⟨1, [1], 1⟩, ⟨2, [0, 1], 1⟩]) en) := by
  rcases few_lane (sl := [⟨0, [1], 0⟩, ⟨0, [0], 1⟩, ⟨1, [0], 0⟩, ⟨1, [1], 1⟩, ⟨2, [0, 1], 1⟩]) (by decide) small53 lanes53 (by decide) h0 h1 h2 with h | h
  · rcases he with rfl | he
    · exact few_nil
    · exact hardT53 _ h en he
  · exact h en
theorem fewS54 (he : En4 en) : Few 2 (lgN (laneN t0 t1 t2 [⟨0, [0, 1], 0⟩, ⟨1, [0, 1], 1⟩, ⟨2, [0, 1], 1⟩]) en) := by
  rcases few_lane (sl := [⟨0, [0, 1], 0⟩, ⟨1, [0, 1], 1⟩, ⟨2, [0, 1], 1⟩]) (by decide) small54 lanes54 (by decide) h0 h1 h2 with h | h
  · cases h
  · exact h en
theorem fewS55 (he : En4 en) : Few 2 (lgN (laneN t0 t1 t2 [⟨0, [1], 0⟩, ⟨0, [0], 1⟩, ⟨1, [0, 1], 1⟩, ⟨2, [0, 1], 1⟩]) en) := by
  rcases few_lane (sl := [⟨0, [1], 0⟩, ⟨0, [0], 1⟩, ⟨1, [0, 1], 1⟩, ⟨2, [0, 1], 1⟩]) (by decide) small55 lanes55 (by decide) h0 h1 h2 with h | h
  · cases h
  · exact h en
theorem fewS56 (he : En4 en) : Few 2 (lgN (laneN t0 t1 t2 [⟨0, [0], 0⟩, ⟨0, [1], 1⟩, ⟨1, [0], 0⟩, ⟨1, [1], 1⟩, ⟨2, [0], 0⟩, ⟨2, [1], 1⟩]) en) := by
  rcases few_lane (sl := [⟨0, [0], 0⟩, ⟨0, [1], 1⟩, ⟨1, [0], 0⟩, ⟨1, [1], 1⟩, ⟨2, [0], 0⟩, ⟨2, [1], 1⟩]) (by decide) small56 lanes56 (by decide) h0 h1 h2 with h | h
  · cases h
  · exact h en
theorem fewS60 (he : En4 en) : Few 2 (lgN (laneN t0 t1 t2 [⟨0, [0], 0⟩, ⟨0, [1], 1⟩, ⟨1, [0], 0⟩, ⟨1, [1], 1⟩, ⟨2, [0, 1], 1⟩]) en) := by
  rcases few_lane (sl := [⟨0, [0], 0⟩, ⟨0, [1], 1⟩, ⟨1, [0], 0⟩, ⟨1, [1], 1⟩, ⟨2, [0, 1], 1⟩]) (by decide) small60 lanes60 (by decide) h0 h1 h2 with h | h
  · cases h
  · exact h en
theorem fewS62 (he : En4 en) : Few 2 (lgN (laneN t0 t1 t2 [⟨0, [0], 0⟩, ⟨0, [1], 1⟩, ⟨1, [0, 1], 1⟩, ⟨2, [0, 1], 1⟩]) en) := by
  rcases few_lane (sl := [⟨0, [0], 0⟩, ⟨0, [1], 1⟩, ⟨1, [0, 1], 1⟩, ⟨2, [0, 1], 1⟩]) (by decide) small62 lanes62 (by decide) h0 h1 h2 with h | h
  · cases h
  · exact h en
theorem fewS63 (he : En4 en) : Few 2 (lgN (laneN t0 t1 t2 [⟨0, [0, 1], 1⟩, ⟨1, [0, 1], 1⟩, ⟨2, [0, 1], 1⟩]) en) := by
  rcases few_lane (sl := [⟨0, [0, 1], 1⟩, ⟨1, [0, 1], 1⟩, ⟨2, [0, 1], 1⟩]) (by decide) small63 lanes63 (by decide) h0 h1 h2 with h | h
  · cases h
  · exact h en
theorem fewCh : Few 2 (lgN (laneN t0 t1 t2 [⟨0, [0], 1⟩, ⟨1, [1], 2⟩, ⟨2, [2], 3⟩]) en) := by
  rcases few_lane (sl := [⟨0, [0], 1⟩, ⟨1, [1], 2⟩, ⟨2, [2], 3⟩]) (by decide) smallC lanesC (by decide) h0 h1 h2 with h | h
  · cases h
  · exact h en
theorem few3 {c0 c1 c2 : Nat} (h01 : c0 ≤ c1) (h12 : c1 ≤ c2) (h3 : c2 < 4) (he : En4 en) : Few 2 (lgN (laneN t0 t1 t2 (slots3 c0 c1 c2)) en) := by
  have e : (c0 = 0 ∧ c1 = 0 ∧ c2 = 0) ∨ (c0 = 0 ∧ c1 = 0 ∧ c2 = 1) ∨ (c0 = 0 ∧ c1 = 1 ∧ c2 = 1) ∨ (c0 = 1 ∧ c1 = 1 ∧ c2 = 1) ∨ (c0 = 0 ∧ c1 = 0 ∧ c2 = 2) ∨ (c0 = 0 ∧ c1 = 1 ∧ c2 = 2) ∨ (c0 = 1 ∧ c1 = 1 ∧ c2 = 2) ∨ (c0 = 0 ∧ c1 = 0 ∧ c2 = 3) ∨ (c0 = 0 ∧ c1 = 1 ∧ c2 = 3) ∨ (c0 = 1 ∧ c1 = 1 ∧ c2 = 3) ∨ (c0 = 0 ∧ c1 = 2 ∧ c2 = 2) ∨ (c0 = 1 ∧ c1 = 2 ∧ c2 = 2) ∨ (c0 = 0 ∧ c1 = 2 ∧ c2 = 3) ∨ (c0 = 1 ∧ c1 = 2 ∧ c2 = 3) ∨ (c0 = 0 ∧ c1 = 3 ∧ c2 = 3) ∨ (c0 = 1 ∧ c1 = 3 ∧ c2 = 3) ∨ (c0 = 2 ∧ c1 = 2 ∧ c2 = 2) ∨ (c0 = 2 ∧ c1 = 2 ∧ c2 = 3) ∨ (c0 = 2 ∧ c1 = 3 ∧ c2 = 3) ∨ (c0 = 3 ∧ c1 = 3 ∧ c2 = 3) := by
    have a0 : c0 = 0 ∨ c0 = 1 ∨ c0 = 2 ∨ c0 = 3 := by omega
    have a1 : c1 = 0 ∨ c1 = 1 ∨ c1 = 2 ∨ c1 = 3 := by omega
    have a2 : c2 = 0 ∨ c2 = 1 ∨ c2 = 2 ∨ c2 = 3 := by omega
    rcases a0 with rfl | rfl | rfl | rfl <;> rcases a1 with rfl | rfl | rfl | rfl <;> rcases a2 with rfl | rfl | rfl | rfl <;> first | (exfalso; omega) | decide
  rcases e with ⟨rfl, rfl, rfl⟩ | ⟨rfl, rfl, rfl⟩ | ⟨rfl, rfl, rfl⟩ | ⟨rfl, rfl, rfl⟩ | ⟨rfl, rfl, rfl⟩ | ⟨rfl, rfl, rfl⟩ | ⟨rfl, rfl, rfl⟩ | ⟨rfl, rfl, rfl⟩ | ⟨rfl, rfl, rfl⟩ | ⟨rfl, rfl, rfl⟩ | ⟨rfl, rfl, rfl⟩ | ⟨rfl, rfl, rfl⟩ | ⟨rfl, rfl, rfl⟩ | ⟨rfl, rfl, rfl⟩ | ⟨rfl, rfl, rfl⟩ | ⟨rfl, rfl, rfl⟩ | ⟨rfl, rfl, rfl⟩ | ⟨rfl, rfl, rfl⟩ | ⟨rfl, rfl, rfl⟩ | ⟨rfl, rfl, rfl⟩
  · rw [show slots3 0 0 0 = [⟨0, [0, 1], 0⟩, ⟨1, [0, 1], 0⟩, ⟨2, [0, 1], 0⟩] from rfl]
    exact fewS0 h0 h1 h2 he
  · rw [show slots3 0 0 1 = [⟨0, [0, 1], 0⟩, ⟨1, [0, 1], 0⟩, ⟨2, [1], 0⟩, ⟨2, [0], 1⟩] from rfl]
    exact fewS4 h0 h1 h2 he
  · rw [show slots3 0 1 1 = [⟨0, [0, 1], 0⟩, ⟨1, [1], 0⟩, ⟨1, [0], 1⟩, ⟨2, [1], 0⟩, ⟨2, [0], 1⟩] from rfl]
    exact fewS6 h0 h1 h2 he
  · rw [show slots3 1 1 1 = [⟨0, [1], 0⟩, ⟨0, [0], 1⟩, ⟨1, [1], 0⟩, ⟨1, [0], 1⟩, ⟨2, [1], 0⟩, ⟨2, [0], 1⟩] from rfl]
    exact fewS7 h0 h1 h2 he
  · rw [show slots3 0 0 2 = [⟨0, [0, 1], 0⟩, ⟨1, [0, 1], 0⟩, ⟨2, [0], 0⟩, ⟨2, [1], 1⟩] from rfl]
    exact fewS32 h0 h1 h2 he
  · rw [show slots3 0 1 2 = [⟨0, [0, 1], 0⟩, ⟨1, [1], 0⟩, ⟨1, [0], 1⟩, ⟨2, [0], 0⟩, ⟨2, [1], 1⟩] from rfl]
    exact fewS34 h0 h1 h2 he
  · rw [show slots3 1 1 2 = [⟨0, [1], 0⟩, ⟨0, [0], 1⟩, ⟨1, [1], 0⟩, ⟨1, [0], 1⟩, ⟨2, [0], 0⟩, ⟨2, [1], 1⟩] from rfl]
    exact fewS35 h0 h1 h2 he
  · rw [show slots3 0 0 3 = [⟨0, [0, 1], 0⟩, ⟨1, [0, 1], 0⟩, ⟨2, [0, 1], 1⟩] from rfl]
    exact fewS36 h0 h1 h2 he
  · rw [show slots3 0 1 3 = [⟨0, [0, 1], 0⟩, ⟨1, [1], 0⟩, ⟨1, [0], 1⟩, ⟨2, [0, 1], 1⟩] from rfl]
    exact fewS38 h0 h1 h2 he
  · rw [show slots3 1 1 3 = [⟨0, [1], 0⟩, ⟨0, [0], 1⟩, ⟨1, [1], 0⟩, ⟨1, [0], 1⟩, ⟨2, [0, 1], 1⟩] from rfl]
    exact fewS39 h0 h1 h2 he
  · rw [show slots3 0 2 2 = [⟨0, [0, 1], 0⟩, ⟨1, [0], 0⟩, ⟨1, [1], 1⟩, ⟨2, [0], 0⟩, ⟨2, [1], 1⟩] from rfl]
    exact fewS48 h0 h1 h2 he
  · rw [show slots3 1 2 2 = [⟨0, [1], 0⟩, ⟨0, [0], 1⟩, ⟨1, [0], 0⟩, ⟨1, [1], 1⟩, ⟨2, [0], 0⟩, ⟨2, [1], 1⟩] from rfl]
    exact fewS49 h0 h1 h2 he
  · rw [show slots3 0 2 3 = [⟨0, [0, 1], 0⟩, ⟨1, [0], 0⟩, ⟨1, [1], 1⟩, ⟨2, [0, 1], 1⟩] from rfl]
    exact fewS52 h0 h1 h2 he
  · rw [show slots3 1 2 3 = [⟨0, [1], 0⟩, ⟨0, [0], 1⟩, ⟨1, [0], 0⟩, ⟨1, [1], 1⟩, ⟨2, [0, 1], 1⟩] from rfl]
    exact fewS53 h0 h1 h2 he
  · rw [show slots3 0 3 3 = [⟨0, [0, 1], 0⟩, ⟨1, [0, 1], 1⟩, ⟨2, [0, 1], 1⟩] from rfl]
    exact fewS54 h0 h1 h2 he
  · rw [show slots3 1 3 3 = [⟨0, [1], 0⟩, ⟨0, [0], 1⟩, ⟨1, [0, 1], 1⟩, ⟨2, [0, 1], 1⟩] from rfl]
    exact fewS55 h0 h1 h2 he
  · rw [show slots3 2 2 2 = [⟨0, [0], 0⟩, ⟨0, [1], 1⟩, ⟨1, [0], 0⟩, ⟨1, [1], 1⟩, ⟨2, [0], 0⟩, ⟨2, [1], 1⟩] from rfl]
    exact fewS56 h0 h1 h2 he
  · rw [show slots3 2 2 3 = [⟨0, [0], 0⟩, ⟨0, [1], 1⟩, ⟨1, [0], 0⟩, ⟨1, [1], 1⟩, ⟨2, [0, 1], 1⟩] from rfl]
    exact fewS60 h0 h1 h2 he
  · rw [show slots3 2 3 3 = [⟨0, [0], 0⟩, ⟨0, [1], 1⟩, ⟨1, [0, 1], 1⟩, ⟨2, [0, 1], 1⟩] from rfl]
    exact fewS62 h0 h1 h2 he
  · rw [show slots3 3 3 3 = [⟨0, [0, 1], 1⟩, ⟨1, [0, 1], 1⟩, ⟨2, [0, 1], 1⟩] from rfl]
    exact fewS63 h0 h1 h2 he
end
end K81L
end
section
set_option Elab.async false
set_option linter.all false
/-! Few residuals of all readings of two-state machines over views of the kinds; of chains of three views. -/
namespace K81L
open K81M
def KL (t : Nat) (b : List Nat) : Prop := ∃ a, Pth (fun l a b => (a < 3 ∧ b < 3) ∧ knx t l a b = true) b a ∧ a < 3 ∧ kfin t a = true
def tg (c q : Nat) : Nat := if q = 0 then c % 2 else c / 2
def EdX (xs : List (Nat × Nat)) (q : Nat) (b : List Nat) (q' : Nat) : Prop := q < 2 ∧ ∃ x ∈ xs, tg x.2 q = q' ∧ KL x.1 b
open Classical in
noncomputable def LgE (E : Nat → List Nat → Nat → Prop) (en : List Nat) : Lang := clip 2 fun w => decide (∃ q ∈ en, Pcs E q w)
open Classical in
theorem lgN_E {J : Type} {N : Nf J} {en : List Nat} : lgN N en = LgE N.E en := by
  unfold lgN LgE
  congr 1
  funext w
  exact decide_eq_decide.mpr Nf.acc_iff
theorem slotsC_iff {p c q q' : Nat} {R : Nat → Prop} (hc : c < 4) : (∃ s ∈ slotsC p c, q ∈ s.src ∧ s.t = q' ∧ R s.p) ↔ q < 2 ∧ tg c q = q' ∧ R p := by
  have e : c = 0 ∨ c = 1 ∨ c = 2 ∨ c = 3 := by omega
  have q2 : ∀ {P : Prop}, (q < 2 ∧ P) ↔ ((q = 0 ∨ q = 1) ∧ P) := fun {P} => by
    constructor
    · rintro ⟨h, z⟩; exact ⟨by omega, z⟩
    · rintro ⟨h, z⟩; exact ⟨by omega, z⟩
  rw [q2]
  rcases e with rfl | rfl | rfl | rfl
  · constructor
    · rintro ⟨s, hs, h1, h2, h3⟩
      rw [List.mem_singleton.mp hs] at h1 h2 h3
      have h1 : q ∈ [0, 1] := h1
      simp at h1
      rcases h1 with rfl | rfl
      · exact ⟨.inl rfl, h2, h3⟩
      · exact ⟨.inr rfl, h2, h3⟩
    · rintro ⟨h1, h2, h3⟩
      refine ⟨_, List.mem_singleton.mpr rfl, ?_, ?_, h3⟩
      · show q ∈ [0, 1]; simp; exact h1
      · rcases h1 with rfl | rfl <;> exact h2
  · constructor
    · rintro ⟨s, hs, h1, h2, h3⟩
      rcases List.mem_cons.mp hs with rfl | hs
      · have h1 : q = 1 := List.mem_singleton.mp h1
        subst h1; exact ⟨.inr rfl, h2, h3⟩
      · rw [List.mem_singleton.mp hs] at h1 h2 h3
        have h1 : q = 0 := List.mem_singleton.mp h1
        subst h1; exact ⟨.inl rfl, h2, h3⟩
    · rintro ⟨rfl | rfl, h2, h3⟩
      · exact ⟨_, List.mem_cons_of_mem _ (List.mem_singleton.mpr rfl), List.mem_singleton.mpr rfl, h2, h3⟩
      · exact ⟨_, List.mem_cons_self, List.mem_singleton.mpr rfl, h2, h3⟩
  · constructor
    · rintro ⟨s, hs, h1, h2, h3⟩
      rcases List.mem_cons.mp hs with rfl | hs
      · have h1 : q = 0 := List.mem_singleton.mp h1
        subst h1; exact ⟨.inl rfl, h2, h3⟩
      · rw [List.mem_singleton.mp hs] at h1 h2 h3
        have h1 : q = 1 := List.mem_singleton.mp h1
        subst h1; exact ⟨.inr rfl, h2, h3⟩
    · rintro ⟨rfl | rfl, h2, h3⟩
      · exact ⟨_, List.mem_cons_self, List.mem_singleton.mpr rfl, h2, h3⟩
      · exact ⟨_, List.mem_cons_of_mem _ (List.mem_singleton.mpr rfl), List.mem_singleton.mpr rfl, h2, h3⟩
  · constructor
    · rintro ⟨s, hs, h1, h2, h3⟩
      rw [List.mem_singleton.mp hs] at h1 h2 h3
      have h1 : q ∈ [0, 1] := h1
      simp at h1
      rcases h1 with rfl | rfl
      · exact ⟨.inl rfl, h2, h3⟩
      · exact ⟨.inr rfl, h2, h3⟩
    · rintro ⟨h1, h2, h3⟩
      refine ⟨_, List.mem_singleton.mpr rfl, ?_, ?_, h3⟩
      · show q ∈ [0, 1]; simp; exact h1
      · rcases h1 with rfl | rfl <;> exact h2
theorem lane_E {t0 t1 t2 q q' : Nat} {sl : List Slot} {b : List Nat} : (laneN t0 t1 t2 sl).E q b q' ↔ ∃ s ∈ sl, q ∈ s.src ∧ s.t = q' ∧ KL (place3 t0 t1 t2 s.p) b := by
  constructor
  · rintro ⟨s, ⟨h1, h2⟩, h3, a, h4, h5, h6⟩
    exact ⟨s, h1, h2, h3, a, h4, h5, h6⟩
  · rintro ⟨s, h1, h2, h3, a, h4, h5, h6⟩
    exact ⟨s, ⟨h1, h2⟩, h3, a, h4, h5, h6⟩
theorem lane3_E {t0 t1 t2 c0 c1 c2 : Nat} (h0 : c0 < 4) (h1 : c1 < 4) (h2 : c2 < 4) : (laneN t0 t1 t2 (slots3 c0 c1 c2)).E = EdX [(t0, c0), (t1, c1), (t2, c2)] := by
  funext q b q'
  apply propext
  rw [lane_E]
  unfold slots3
  have key : (∃ s ∈ slotsC 0 c0 ++ (slotsC 1 c1 ++ slotsC 2 c2), q ∈ s.src ∧ s.t = q' ∧ KL (place3 t0 t1 t2 s.p) b) ↔ (q < 2 ∧ tg c0 q = q' ∧ KL t0 b) ∨ (q < 2 ∧ tg c1 q = q' ∧ KL t1 b) ∨ (q < 2 ∧ tg c2 q = q' ∧ KL t2 b) := by
    have e0 : (∃ s ∈ slotsC 0 c0, q ∈ s.src ∧ s.t = q' ∧ KL (place3 t0 t1 t2 s.p) b) ↔ (q < 2 ∧ tg c0 q = q' ∧ KL t0 b) := slotsC_iff (p := 0) (R := fun p => KL (place3 t0 t1 t2 p) b) h0
    have e1 : (∃ s ∈ slotsC 1 c1, q ∈ s.src ∧ s.t = q' ∧ KL (place3 t0 t1 t2 s.p) b) ↔ (q < 2 ∧ tg c1 q = q' ∧ KL t1 b) := slotsC_iff (p := 1) (R := fun p => KL (place3 t0 t1 t2 p) b) h1
    have e2 : (∃ s ∈ slotsC 2 c2, q ∈ s.src ∧ s.t = q' ∧ KL (place3 t0 t1 t2 s.p) b) ↔ (q < 2 ∧ tg c2 q = q' ∧ KL t2 b) := slotsC_iff (p := 2) (R := fun p => KL (place3 t0 t1 t2 p) b) h2
    rw [← e0, ← e1, ← e2]
    constructor
    · rintro ⟨s, hs, h⟩
      rcases List.mem_append.mp hs with hs | hs
      · exact .inl ⟨s, hs, h⟩
      · rcases List.mem_append.mp hs with hs | hs
        · exact .inr (.inl ⟨s, hs, h⟩)
        · exact .inr (.inr ⟨s, hs, h⟩)
    · rintro (⟨s, hs, h⟩ | ⟨s, hs, h⟩ | ⟨s, hs, h⟩)
      · exact ⟨s, List.mem_append_left _ hs, h⟩
      · exact ⟨s, List.mem_append_right _ (List.mem_append_left _ hs), h⟩
      · exact ⟨s, List.mem_append_right _ (List.mem_append_right _ hs), h⟩
  rw [key]
  constructor
  · rintro (⟨a, b, c⟩ | ⟨a, b, c⟩ | ⟨a, b, c⟩)
    · exact ⟨a, _, List.mem_cons_self, b, c⟩
    · exact ⟨a, _, List.mem_cons_of_mem _ List.mem_cons_self, b, c⟩
    · exact ⟨a, _, List.mem_cons_of_mem _ (List.mem_cons_of_mem _ List.mem_cons_self), b, c⟩
  · rintro ⟨a, x, hx, b, c⟩
    rcases List.mem_cons.mp hx with rfl | hx
    · exact .inl ⟨a, b, c⟩
    · rcases List.mem_cons.mp hx with rfl | hx
      · exact .inr (.inl ⟨a, b, c⟩)
      · rw [List.mem_singleton.mp hx] at b c
        exact .inr (.inr ⟨a, b, c⟩)
theorem EdX_congr {xs ys : List (Nat × Nat)} (h : ∀ x, x ∈ xs ↔ x ∈ ys) : EdX xs = EdX ys := by
  funext q b q'
  apply propext
  constructor
  · rintro ⟨a, x, hx, r⟩; exact ⟨a, x, (h x).mp hx, r⟩
  · rintro ⟨a, x, hx, r⟩; exact ⟨a, x, (h x).mpr hx, r⟩
theorem few_sorted {x y z : Nat × Nat} (hx : x.1 < 29) (hy : y.1 < 29) (hz : z.1 < 29) (h1 : x.2 ≤ y.2) (h2 : y.2 ≤ z.2) (h3 : z.2 < 4) {en : List Nat} (he : En4 en) : Few 2 (LgE (EdX [x, y, z]) en) := by
  obtain ⟨t0, c0⟩ := x
  obtain ⟨t1, c1⟩ := y
  obtain ⟨t2, c2⟩ := z
  have h1 : c0 ≤ c1 := h1
  have h2 : c1 ≤ c2 := h2
  have h3 : c2 < 4 := h3
  have := few3 (t0 := t0) (t1 := t1) (t2 := t2) hx hy hz h1 h2 h3 he
  rw [lgN_E, lane3_E (by omega) (by omega) h3] at this
  exact this
theorem few_three {x y z : Nat × Nat} (hx : x.1 < 29 ∧ x.2 < 4) (hy : y.1 < 29 ∧ y.2 < 4) (hz : z.1 < 29 ∧ z.2 < 4) {en : List Nat} (he : En4 en) : Few 2 (LgE (EdX [x, y, z]) en) := by
  have go : ∀ {a b c : Nat × Nat}, (a.1 < 29 ∧ a.2 < 4) → (b.1 < 29 ∧ b.2 < 4) → (c.1 < 29 ∧ c.2 < 4) → a.2 ≤ b.2 → b.2 ≤ c.2 → (∀ w, w ∈ [x, y, z] ↔ w ∈ [a, b, c]) → Few 2 (LgE (EdX [x, y, z]) en) := fun ha hb hc h1 h2 h => by
    rw [EdX_congr h]
    exact few_sorted ha.1 hb.1 hc.1 h1 h2 hc.2 he
  have p : ∀ w : Nat × Nat, w ∈ [x, y, z] ↔ (w = x ∨ w = y ∨ w = z) := fun w => by simp
  rcases Nat.le_total x.2 y.2 with a | a <;> rcases Nat.le_total y.2 z.2 with b | b <;> rcases Nat.le_total x.2 z.2 with c | c
  · exact go hx hy hz a b fun w => Iff.rfl
  · exact go hx hy hz a b fun w => Iff.rfl
  · exact go hx hz hy c b fun w => by simp; constructor <;> (rintro (h | h | h) <;> simp [h])
  · exact go hz hx hy c a fun w => by simp; constructor <;> (rintro (h | h | h) <;> simp [h])
  · exact go hy hx hz a c fun w => by simp; constructor <;> (rintro (h | h | h) <;> simp [h])
  · exact go hy hz hx b c fun w => by simp; constructor <;> (rintro (h | h | h) <;> simp [h])
  · exact go hz hy hx b a fun w => by simp; constructor <;> (rintro (h | h | h) <;> simp [h])
  · exact go hz hy hx b a fun w => by simp; constructor <;> (rintro (h | h | h) <;> simp [h])
theorem few_X {xs : List (Nat × Nat)} (h1 : 1 ≤ xs.length) (h3 : xs.length ≤ 3) (h : ∀ x ∈ xs, x.1 < 29 ∧ x.2 < 4) {en : List Nat} (he : En4 en) : Few 2 (LgE (EdX xs) en) := by
  match xs, h1, h3 with
  | [x], _, _ =>
    rw [EdX_congr (ys := [x, x, x]) fun w => by simp]
    exact few_three (h x List.mem_cons_self) (h x List.mem_cons_self) (h x List.mem_cons_self) he
  | [x, y], _, _ =>
    rw [EdX_congr (ys := [x, y, y]) fun w => by simp]
    exact few_three (h x List.mem_cons_self) (h y (List.mem_cons_of_mem _ List.mem_cons_self)) (h y (List.mem_cons_of_mem _ List.mem_cons_self)) he
  | [x, y, z], _, _ => exact few_three (h x List.mem_cons_self) (h y (List.mem_cons_of_mem _ List.mem_cons_self)) (h z (List.mem_cons_of_mem _ (List.mem_cons_of_mem _ List.mem_cons_self))) he
/-- chains of three -/
def EdC (t0 t1 t2 q : Nat) (b : List Nat) (q' : Nat) : Prop := (q = 0 ∧ q' = 1 ∧ KL t0 b) ∨ (q = 1 ∧ q' = 2 ∧ KL t1 b) ∨ (q = 2 ∧ q' = 3 ∧ KL t2 b)
theorem laneC_E {t0 t1 t2 : Nat} : (laneN t0 t1 t2 [⟨0, [0], 1⟩, ⟨1, [1], 2⟩, ⟨2, [2], 3⟩]).E = EdC t0 t1 t2 := by
  funext q b q'
  apply propext
  rw [lane_E]
  constructor
  · rintro ⟨s, hs, h1, h2, h3⟩
    rcases List.mem_cons.mp hs with rfl | hs
    · exact .inl ⟨List.mem_singleton.mp h1, h2.symm, h3⟩
    · rcases List.mem_cons.mp hs with rfl | hs
      · exact .inr (.inl ⟨List.mem_singleton.mp h1, h2.symm, h3⟩)
      · rw [List.mem_singleton.mp hs] at h1 h2 h3
        exact .inr (.inr ⟨List.mem_singleton.mp h1, h2.symm, h3⟩)
  · rintro (⟨rfl, rfl, h⟩ | ⟨rfl, rfl, h⟩ | ⟨rfl, rfl, h⟩)
    · exact ⟨_, List.mem_cons_self, List.mem_singleton.mpr rfl, rfl, h⟩
    · exact ⟨_, List.mem_cons_of_mem _ List.mem_cons_self, List.mem_singleton.mpr rfl, rfl, h⟩
    · exact ⟨_, List.mem_cons_of_mem _ (List.mem_cons_of_mem _ List.mem_cons_self), List.mem_singleton.mpr rfl, rfl, h⟩
theorem few_C {t0 t1 t2 : Nat} (h0 : t0 < 29) (h1 : t1 < 29) (h2 : t2 < 29) {en : List Nat} : Few 2 (LgE (EdC t0 t1 t2) en) := by
  have := fewCh (t0 := t0) (t1 := t1) (t2 := t2) h0 h1 h2 (en := en)
  rw [lgN_E, laneC_E] at this
  exact this
end K81L
end
section
set_option Elab.async false
set_option linter.all false
set_option maxRecDepth 100000
/-! printed by gen_kinds.py: the kinds of the told and the drawn machines -/
namespace K81
open K81M K81L
def vsAll : List (View × Nat × List Nat) := [(([[1, 0], [0, 1]], [0]), 12, [0, 1]),
  (([[1, 0], [0, 1]], [1]), 13, [0, 1]),
  (([[1, 0], [1, 0]], [1]), 15, [0, 1]),
  (([[0, 1], [1, 1]], [1]), 9, [0, 1]),
  (([[0, 1], [1, 1]], [0]), 8, [0, 9]),
  (([[0, 0]], [0]), 1, [0]),
  (([[0, 0]], []), 0, [9]),
  (([[1, 1], [1, 1]], [0]), 24, [0, 9]),
  (([[1, 2], [2, 2], [2, 2]], [1]), 27, [0, 1, 9]),
  (([[1, 1], [2, 2], [0, 0]], [0]), 26, [0, 1, 2]),
  (([[1, 2], [2, 3], [2, 2], [2, 2]], [0, 3]), 28, [0, 1, 9, 2]),
  (([[0, 0], [0, 0]], []), 0, [9, 0]),
  (([[0, 0], [0, 0]], [0]), 1, [0, 8]),
  (([[0, 0], [0, 0]], [1]), 0, [9, 8]),
  (([[0, 0], [0, 0]], [0, 1]), 1, [0, 0]),
  (([[0, 0], [0, 1]], []), 0, [9, 9]),
  (([[0, 0], [0, 1]], [0]), 1, [0, 8]),
  (([[0, 0], [0, 1]], [1]), 0, [9, 8]),
  (([[0, 0], [0, 1]], [0, 1]), 1, [0, 0]),
  (([[0, 0], [1, 0]], []), 0, [9, 9]),
  (([[0, 0], [1, 0]], [0]), 1, [0, 8]),
  (([[0, 0], [1, 0]], [1]), 0, [9, 8]),
  (([[0, 0], [1, 0]], [0, 1]), 1, [0, 0]),
  (([[0, 0], [1, 1]], []), 0, [9, 9]),
  (([[0, 0], [1, 1]], [0]), 1, [0, 9]),
  (([[0, 0], [1, 1]], [1]), 0, [9, 8]),
  (([[0, 0], [1, 1]], [0, 1]), 1, [0, 0]),
  (([[0, 1], [0, 0]], []), 0, [9, 9]),
  (([[0, 1], [0, 0]], [0]), 2, [0, 1]),
  (([[0, 1], [0, 0]], [1]), 3, [0, 1]),
  (([[0, 1], [0, 0]], [0, 1]), 1, [0, 0]),
  (([[0, 1], [0, 1]], []), 0, [9, 9]),
  (([[0, 1], [0, 1]], [0]), 4, [0, 1]),
  (([[0, 1], [0, 1]], [1]), 5, [0, 1]),
  (([[0, 1], [0, 1]], [0, 1]), 1, [0, 0]),
  (([[0, 1], [1, 0]], []), 0, [9, 9]),
  (([[0, 1], [1, 0]], [0]), 6, [0, 1]),
  (([[0, 1], [1, 0]], [1]), 7, [0, 1]),
  (([[0, 1], [1, 0]], [0, 1]), 1, [0, 0]),
  (([[0, 1], [1, 1]], []), 0, [9, 9]),
  (([[0, 1], [1, 1]], [0, 1]), 1, [0, 0]),
  (([[1, 0], [0, 0]], []), 0, [9, 9]),
  (([[1, 0], [0, 0]], [0]), 10, [0, 1]),
  (([[1, 0], [0, 0]], [1]), 11, [0, 1]),
  (([[1, 0], [0, 0]], [0, 1]), 1, [0, 0]),
  (([[1, 0], [0, 1]], []), 0, [9, 9]),
  (([[1, 0], [0, 1]], [0, 1]), 1, [0, 0]),
  (([[1, 0], [1, 0]], []), 0, [9, 9]),
  (([[1, 0], [1, 0]], [0]), 14, [0, 1]),
  (([[1, 0], [1, 0]], [0, 1]), 1, [0, 0]),
  (([[1, 0], [1, 1]], []), 0, [9, 9]),
  (([[1, 0], [1, 1]], [0]), 16, [0, 9]),
  (([[1, 0], [1, 1]], [1]), 17, [0, 1]),
  (([[1, 0], [1, 1]], [0, 1]), 1, [0, 0]),
  (([[1, 1], [0, 0]], []), 0, [9, 9]),
  (([[1, 1], [0, 0]], [0]), 18, [0, 1]),
  (([[1, 1], [0, 0]], [1]), 19, [0, 1]),
  (([[1, 1], [0, 0]], [0, 1]), 1, [0, 0]),
  (([[1, 1], [0, 1]], []), 0, [9, 9]),
  (([[1, 1], [0, 1]], [0]), 20, [0, 1]),
  (([[1, 1], [0, 1]], [1]), 21, [0, 1]),
  (([[1, 1], [0, 1]], [0, 1]), 1, [0, 0]),
  (([[1, 1], [1, 0]], []), 0, [9, 9]),
  (([[1, 1], [1, 0]], [0]), 22, [0, 1]),
  (([[1, 1], [1, 0]], [1]), 23, [0, 1]),
  (([[1, 1], [1, 0]], [0, 1]), 1, [0, 0]),
  (([[1, 1], [1, 1]], []), 0, [0, 9]),
  (([[1, 1], [1, 1]], [1]), 25, [0, 1]),
  (([[1, 1], [1, 1]], [0, 1]), 1, [0, 0])]
structure KOk (v : View) (t : Nat) (f : List Nat) : Prop where
  t29 : t < 29
  n1 : 1 ≤ v.1.length
  n4 : v.1.length ≤ 4
  row : ∀ r ∈ v.1, r.length = 2 ∧ ∀ q ∈ r, q < v.1.length
  nd : v.2.Nodup
  lt : ∀ q ∈ v.2, q < v.1.length
  im : ∀ l, l < 2 → (addAll [] (0 :: (List.range v.1.length).map fun s => go v.1 s l)).length ≤ 3
  f0 : f.getD 0 8 = 0 ∨ (f.getD 0 8 = 9 ∧ t = 0)
  fv : ∀ s, s < v.1.length → f.getD s 8 < 3 ∨ f.getD s 8 = 9 ∨ f.getD s 8 = 8
  dead : ∀ s, s < v.1.length → f.getD s 8 = 9 → s ∉ v.2 ∧ ∀ l, l < 2 → f.getD (go v.1 s l) 8 = 9
  live : ∀ s, s < v.1.length → f.getD s 8 < 3 → (s ∈ v.2 ↔ kfin t (f.getD s 8) = true) ∧ ∀ l, l < 2 → (kinds.getD t []).getD (3 * f.getD s 8 + l) 9 = f.getD (go v.1 s l) 8 ∧ f.getD (go v.1 s l) 8 ≠ 8
set_option synthInstance.maxSize 4000 in
set_option synthInstance.maxHeartbeats 0 in
instance {v : View} {t : Nat} {f : List Nat} : Decidable (KOk v t f) :=
  decidable_of_iff (t < 29 ∧ 1 ≤ v.1.length ∧ v.1.length ≤ 4 ∧ (∀ r ∈ v.1, r.length = 2 ∧ ∀ q ∈ r, q < v.1.length) ∧ v.2.Nodup ∧ (∀ q ∈ v.2, q < v.1.length) ∧ (∀ l, l < 2 → (addAll [] (0 :: (List.range v.1.length).map fun s => go v.1 s l)).length ≤ 3) ∧ (f.getD 0 8 = 0 ∨ (f.getD 0 8 = 9 ∧ t = 0)) ∧ (∀ s, s < v.1.length → f.getD s 8 < 3 ∨ f.getD s 8 = 9 ∨ f.getD s 8 = 8) ∧ (∀ s, s < v.1.length → f.getD s 8 = 9 → s ∉ v.2 ∧ ∀ l, l < 2 → f.getD (go v.1 s l) 8 = 9) ∧ (∀ s, s < v.1.length → f.getD s 8 < 3 → (s ∈ v.2 ↔ kfin t (f.getD s 8) = true) ∧ ∀ l, l < 2 → (kinds.getD t []).getD (3 * f.getD s 8 + l) 9 = f.getD (go v.1 s l) 8 ∧ f.getD (go v.1 s l) 8 ≠ 8))
    ⟨fun ⟨a, b, c, d, e, g, h, i, j, k, l⟩ => ⟨a, b, c, d, e, g, h, i, j, k, l⟩, fun h => ⟨h.t29, h.n1, h.n4, h.row, h.nd, h.lt, h.im, h.f0, h.fv, h.dead, h.live⟩⟩
theorem vs_ok : ∀ x ∈ vsAll, KOk x.1 x.2.1 x.2.2 := by decide +kernel
theorem told_in : ∀ v ∈ toldB, v ∈ vsAll.map (·.1) := by decide +kernel
theorem drawn_in {v : View} (h : Drawn v) : v ∈ vsAll.map (·.1) := by
  obtain ⟨st, en⟩ := v
  obtain ⟨a, b, c, d, ha, hb, hc, hd, e1, e2⟩ := h
  have e1 : st = [[a, b], [c, d]] := e1
  have e2 : en = [] ∨ en = [0] ∨ en = [1] ∨ en = [0, 1] := e2
  have a' : a = 0 ∨ a = 1 := by omega
  have b' : b = 0 ∨ b = 1 := by omega
  have c' : c = 0 ∨ c = 1 := by omega
  have d' : d = 0 ∨ d = 1 := by omega
  subst e1
  rcases a' with rfl | rfl <;> rcases b' with rfl | rfl <;> rcases c' with rfl | rfl <;> rcases d' with rfl | rfl <;> rcases e2 with rfl | rfl | rfl | rfl <;> decide +kernel
theorem v_kind {v : View} (h : v ∈ toldB ∨ Drawn v) : ∃ t f, KOk v t f := by
  have hm : v ∈ vsAll.map (·.1) := by
    rcases h with h | h
    · exact told_in v h
    · exact drawn_in h
  obtain ⟨x, hx, rfl⟩ := List.mem_map.mp hm
  exact ⟨_, _, vs_ok x hx⟩
section
variable {v : View} {t : Nat} {f : List Nat} (K : KOk v t f)
include K
theorem KOk.val : Valid 2 v.1 v.2 := ⟨K.n1, K.row, K.lt⟩
theorem KOk.pth : ∀ (b : List Nat), (∀ l ∈ b, l < 2) → run v.1 0 b < v.1.length ∧ f.getD (run v.1 0 b) 8 ≠ 8 ∧ ((t = 0 ∧ f.getD (run v.1 0 b) 8 = 9) ∨ ∀ a, Pth (fun l a b => (a < 3 ∧ b < 3) ∧ knx t l a b = true) b a ↔ f.getD (run v.1 0 b) 8 = a ∧ a < 3) := by
  refine snocInd (fun _ => ?_) fun b l ih hb => ?_
  · refine ⟨K.n1, ?_, ?_⟩
    · rcases K.f0 with h | h
      · show f.getD 0 8 ≠ 8
        omega
      · show f.getD 0 8 ≠ 8
        omega
    · rcases K.f0 with h | ⟨h1, h2⟩
      · refine .inr fun a => ⟨fun hp => ?_, fun ⟨h1, h2⟩ => ?_⟩
        · rw [hp.inv0]
          exact ⟨h, by decide⟩
        · have h1 : f.getD 0 8 = a := h1
          rw [h] at h1
          rw [← h1]
          exact .nil
      · exact .inl ⟨h2, h1⟩
  · obtain ⟨i1, i2, i3⟩ := ih fun x hx => hb x (List.mem_append_left _ hx)
    have hl : l < 2 := hb l (List.mem_append_right _ List.mem_cons_self)
    have er : run v.1 0 (b ++ [l]) = go v.1 (run v.1 0 b) l := by rw [run_app] <;> rfl
    rw [er]
    generalize run v.1 0 b = s at i1 i2 i3 ⊢
    have g1 := K.val.go i1 hl
    refine ⟨g1, ?_, ?_⟩
    · rcases K.fv s i1 with h | h | h
      · exact ((K.live s i1 h).2 l hl).2
      · rw [(K.dead s i1 h).2 l hl]; decide
      · exact absurd h i2
    · rcases i3 with ⟨h1, h2⟩ | h
      · exact .inl ⟨h1, (K.dead s i1 h2).2 l hl⟩
      · right
        intro a'
        constructor
        · intro hp
          obtain ⟨a, ha, ⟨h3, h4⟩, hn⟩ := hp.inv
          obtain ⟨e, ha3⟩ := (h a).mp ha
          have lv := ((K.live s i1 (by omega)).2 l hl).1
          have hn : Nat.beq ((kinds.getD t []).getD (3 * a + l) 9) a' = true := hn
          have hn := Nat.eq_of_beq_eq_true hn
          rw [e] at lv
          exact ⟨by rw [← lv, hn], h4⟩
        · rintro ⟨h1, h2⟩
          rcases K.fv s i1 with h3 | h3 | h3
          · have lv := ((K.live s i1 h3).2 l hl).1
            refine .snoc ((h _).mpr ⟨rfl, h3⟩) ⟨⟨h3, h2⟩, ?_⟩
            show Nat.beq ((kinds.getD t []).getD (3 * f.getD s 8 + l) 9) a' = true
            rw [lv, h1]
            exact Nat.beq_refl _
          · rw [(K.dead s i1 h3).2 l hl] at h1
            omega
          · exact absurd h3 i2
theorem KOk.lang {b : List Nat} (hb : ∀ l ∈ b, l < 2) : run v.1 0 b ∈ v.2 ↔ KL t b := by
  obtain ⟨h1, h2, h3⟩ := K.pth b hb
  rcases h3 with ⟨rfl, h⟩ | h
  · constructor
    · exact fun z => absurd z (K.dead _ h1 h).1
    · rintro ⟨a, _, ha, hf⟩
      have e : a = 0 ∨ a = 1 ∨ a = 2 := by omega
      rcases e with rfl | rfl | rfl <;> cases hf
  · rcases K.fv _ h1 with h4 | h4 | h4
    · rw [(K.live _ h1 h4).1]
      constructor
      · exact fun z => ⟨_, (h _).mpr ⟨rfl, h4⟩, h4, z⟩
      · rintro ⟨a, hp, _, hf⟩
        rw [((h a).mp hp).1]
        exact hf
    · constructor
      · exact fun z => absurd z (K.dead _ h1 h4).1
      · rintro ⟨a, hp, _, _⟩
        have := (h a).mp hp
        omega
    · exact absurd h4 h2
theorem KOk.vok {m : Nat} (hm : m = 1 ∨ m = 2) : VOk m (cutW m v) := by
  have ln : (cutW m v).1.length = v.1.length := List.length_map _
  refine ⟨⟨by rw [ln]; exact K.n1, fun r hr => ?_, by rw [ln]; have := K.n4; omega, by omega⟩, by omega, by rw [ln]; have := K.n4; omega, K.nd, fun q hq => by rw [ln]; exact K.lt q hq⟩
  obtain ⟨r', hr', rfl⟩ := List.mem_map.mp hr
  obtain ⟨h1, h2⟩ := K.row r' hr'
  exact ⟨by rw [List.length_take, h1]; omega, fun q hq => by rw [ln]; exact h2 q (List.mem_of_mem_take hq)⟩
end
theorem cut_go {v : View} {m s l : Nat} (hl : l < m) : go (cutW m v).1 s l = go v.1 s l := by
  unfold go
  show ((v.1.map (List.take m)).getD s []).getD l 0 = _
  simp only [List.getD_eq_getElem?_getD, List.getElem?_map]
  cases v.1[s]? with
  | none => rfl
  | some r =>
    show ((r.take m)[l]?).getD 0 = (r[l]?).getD 0
    rw [List.getElem?_take, if_pos hl]
theorem cut_run {v : View} {m : Nat} : ∀ {b : List Nat} {s : Nat}, (∀ l ∈ b, l < m) → run (cutW m v).1 s b = run v.1 s b
  | [], _, _ => rfl
  | l :: b, s, h => by
    rw [run_cons, run_cons, cut_go (h l List.mem_cons_self)]
    exact cut_run fun x hx => h x (List.mem_cons_of_mem _ hx)
end K81
end
section
set_option Elab.async false
set_option linter.all false
set_option maxRecDepth 100000
/-! Least machines told by the machines that they come from; a finite lot of standings. -/
namespace K81
open K81M
/-- a least machine's states and steps from those of any machine of its language -/
theorem canon_phi {m : Nat} {st0 st : List (List Nat)} {en0 en : List Nat} (v : Valid m st0 en0) (h : Canon m (lang m st0 en0) st en) :
    ∃ φ : Nat → Nat, φ 0 = 0 ∧ ∀ s, s < st.length → ∃ r, r < st0.length ∧ s = φ r ∧ ∀ l, l < m → go st s l = φ (go st0 r l) := by
  obtain ⟨R, b, rfl, rfl⟩ := h
  have all : ∀ M ∈ R, ∃ r, r < st0.length ∧ M = stL m st0 en0 r := b.all (C := fun M => ∃ r, r < st0.length ∧ M = stL m st0 en0 r) (fun M ⟨r, hr, e⟩ N hN => by
    obtain ⟨l, hl, rfl⟩ := mem_nextL.mp hN
    exact ⟨go st0 r l, v.go hr hl, by rw [e, der_stL hl]⟩) fun M hM => ⟨0, v.pos, List.mem_singleton.mp hM⟩
  have nd : R.Nodup := b.nodup (List.nodup_cons.mpr ⟨by simp, List.nodup_nil⟩)
  refine ⟨fun r => R.idxOf (stL m st0 en0 r), (canon_first b).2, fun s hs => ?_⟩
  rw [List.length_map] at hs
  obtain ⟨r, hr, e⟩ := all R[s] (List.getElem_mem hs)
  have es : R.idxOf R[s] = s := by
    have h1 := idxOf_get (List.getElem_mem hs)
    have h2 : R[s]? = some R[s] := List.getElem?_eq_getElem hs
    exact (List.getElem?_inj (List.idxOf_lt_length_of_mem (List.getElem_mem hs)) nd).mp (h1.trans h2.symm)
  refine ⟨r, hr, by show s = R.idxOf (stL m st0 en0 r); rw [← e, es], fun l hl => ?_⟩
  have := canon_go (m := m) (List.getElem_mem hs) hl
  rw [es] at this
  rw [this, e, der_stL hl]
theorem canon_len {m : Nat} {st0 st : List (List Nat)} {en0 en : List Nat} (v : Valid m st0 en0) (h : Canon m (lang m st0 en0) st en) : st.length ≤ st0.length := by
  obtain ⟨φ, _, hφ⟩ := canon_phi v h
  have := nodup_le (List.nodup_range (n := st.length)) (U := (List.range st0.length).map φ) fun s hs => by
    obtain ⟨r, hr, e, _⟩ := hφ s (List.mem_range.mp hs)
    exact List.mem_map.mpr ⟨r, List.mem_range.mpr hr, e.symm⟩
  rwa [List.length_map, List.length_range, List.length_range] at this
/-- a view has few states behind a letter -/
def Few3 (m : Nat) (v : View) : Prop := ∀ l, l < m → ∃ I : List Nat, I.length ≤ 3 ∧ 0 ∈ I ∧ ∀ s, s < v.1.length → go v.1 s l ∈ I
theorem canon_im {m : Nat} {st0 st : List (List Nat)} {en0 en : List Nat} (v : Valid m st0 en0) (h : Canon m (lang m st0 en0) st en) (im : ∀ l, l < m → (addAll [] (0 :: (List.range st0.length).map fun s => go st0 s l)).length ≤ 3) : Few3 m (st, en) := by
  obtain ⟨φ, h0, hφ⟩ := canon_phi v h
  intro l hl
  refine ⟨(addAll [] (0 :: (List.range st0.length).map fun s => go st0 s l)).map φ, by rw [List.length_map]; exact im l hl, List.mem_map.mpr ⟨0, mem_addAll0.mpr List.mem_cons_self, h0⟩, fun s hs => ?_⟩
  obtain ⟨r, hr, _, e⟩ := hφ s hs
  exact List.mem_map.mpr ⟨_, mem_addAll0.mpr (List.mem_cons_of_mem _ (List.mem_map.mpr ⟨r, List.mem_range.mpr hr, rfl⟩)), (e l hl).symm⟩
/-! ### all lots out of a list -/
def subs {α : Type} : List α → List (List α)
  | [] => [[]]
  | x :: xs => subs xs ++ (subs xs).map (x :: ·)
theorem subs_len {α : Type} : ∀ xs : List α, (subs xs).length = 2 ^ xs.length
  | [] => rfl
  | x :: xs => by
    show (subs xs ++ (subs xs).map (x :: ·)).length = 2 ^ (xs.length + 1)
    rw [List.length_append, List.length_map, subs_len xs, Nat.pow_succ]
    omega
theorem subs_filter {α : Type} (p : α → Bool) : ∀ xs : List α, xs.filter p ∈ subs xs
  | [] => List.mem_singleton.mpr rfl
  | x :: xs => by
    show (x :: xs).filter p ∈ subs xs ++ (subs xs).map (x :: ·)
    by_cases h : p x = true
    · rw [List.filter_cons_of_pos h]
      exact List.mem_append_right _ (List.mem_map.mpr ⟨_, subs_filter p xs, rfl⟩)
    · rw [List.filter_cons_of_neg h]
      exact List.mem_append_left _ (subs_filter p xs)
theorem subs_sub {α : Type} : ∀ {xs y : List α}, y ∈ subs xs → ∀ a ∈ y, a ∈ xs
  | [], y, h, a, ha => by rw [List.mem_singleton.mp h] at ha; cases ha
  | x :: xs, y, h, a, ha => by
    rcases List.mem_append.mp h with h | h
    · exact List.mem_cons_of_mem _ (subs_sub h a ha)
    · obtain ⟨z, hz, rfl⟩ := List.mem_map.mp h
      rcases List.mem_cons.mp ha with rfl | ha
      · exact List.mem_cons_self
      · exact List.mem_cons_of_mem _ (subs_sub hz a ha)
theorem flatMap_le {α β : Type} {f : α → List β} {c : Nat} : ∀ {xs : List α}, (∀ x ∈ xs, (f x).length ≤ c) → (xs.flatMap f).length ≤ xs.length * c
  | [], _ => by simp
  | x :: xs, h => by
    rw [List.flatMap_cons, List.length_append, List.length_cons, Nat.succ_mul]
    have h1 := h x List.mem_cons_self
    have h2 := flatMap_le (f := f) (c := c) (xs := xs) fun y hy => h y (List.mem_cons_of_mem _ hy)
    omega
theorem univ_few {vw : List View} {n : Nat} (hn : n ≤ 10) (hk : vw.length ≤ 3) (h4 : ∀ v ∈ vw, v.1.length ≤ 4) : (univ vw n).length ≤ 100000 := by
  have := flatMap_le (f := fun (q : Nat) => ([(q : Int), -1, 0] : T3) :: (List.range vw.length).flatMap fun (v : Nat) => (List.range (vw.getD v ([], [])).1.length).map fun (s : Nat) => ([(q : Int), (v : Int), (s : Int)] : T3)) (c := 13) (xs := List.range n) fun q _ => by
    rw [List.length_cons]
    have := flatMap_le (f := fun (v : Nat) => (List.range (vw.getD v ([], [])).1.length).map fun (s : Nat) => ([(q : Int), (v : Int), (s : Int)] : T3)) (c := 4) (xs := List.range vw.length) fun v hv => by
      rw [List.length_map, List.length_range]
      have hv := List.mem_range.mp hv
      rw [List.getD_eq_getElem?_getD, List.getElem?_eq_getElem hv]
      exact h4 _ (List.getElem_mem hv)
    rw [List.length_range] at this
    have : vw.length * 4 ≤ 3 * 4 := Nat.mul_le_mul_right 4 hk
    omega
  rw [List.length_range] at this
  have h2 : n * 13 ≤ 10 * 13 := Nat.mul_le_mul_right 13 hn
  unfold univ
  omega
section
variable {vw : List View} {rows : List (List Int)} {m : Nat}
theorem Rch.imp {e : T3 → List T3} {s s' : List T3} (h : ∀ t ∈ s, Rch e s' t) {t : T3} (r : Rch e s t) : Rch e s' t := by
  induction r with
  | base hm => exact h _ hm
  | step _ hy ih => exact .step ih hy
theorem cloL_same {s s' : List T3} (h : ∀ t, Rch (eps vw rows) s t ↔ Rch (eps vw rows) s' t) : cloL leT vw rows s = cloL leT vw rows s' := by
  unfold cloL
  congr 1
  refine List.filter_congr fun t _ => ?_
  exact decide_eq_decide.mpr (h t)
theorem cloL_nodup {s : List T3} : (cloL leT vw rows s).Nodup := by
  unfold cloL
  exact (List.mergeSort_perm _ _).nodup_iff.mpr (List.Nodup.sublist List.filter_sublist (addAll_nodup _ _ List.nodup_nil))
/-- the standings between: the pairs of a state and a view that come at all -/
structure Prs (vw : List View) (rows : List (List Int)) (P : List (Nat × Nat)) : Prop where
  few : P.length ≤ 6
  all : ∀ q, q < rows.length → ∀ v, v < (rows.getD q []).length → ∀ q' : Nat, (rows.getD q []).getD v 0 = (q' : Int) → (q', v) ∈ P
theorem uok_of {P : List (Nat × Nat)} (PO : POk vw rows m) (hP : Prs vw rows P) (hI : ∀ v, v < vw.length → Few3 m (vw.getD v ([], []))) : ∃ U, UOk vw rows m U := by
  have W := PO.wf
  -- after a letter
  let I : Nat → Nat → List Nat := fun v l => if h : v < vw.length ∧ l < m then Classical.choose (hI v h.1 l h.2) else []
  have I3 : ∀ v l, (I v l).length ≤ 3 := fun v l => by
    show (if h : v < vw.length ∧ l < m then Classical.choose (hI v h.1 l h.2) else []).length ≤ 3
    split
    · rename_i h
      exact (Classical.choose_spec (hI v h.1 l h.2)).1
    · exact Nat.zero_le _
  have IE : ∀ v l (h : v < vw.length ∧ l < m), I v l = Classical.choose (hI v h.1 l h.2) := fun v l h => dif_pos h
  let B : Nat → List T3 := fun l => P.flatMap fun p => (I p.2 l).map fun (s : Nat) => ([(p.1 : Int), (p.2 : Int), (s : Int)] : T3)
  have B18 : ∀ l, (B l).length ≤ 18 := fun l => by
    have := flatMap_le (f := fun (p : Nat × Nat) => (I p.2 l).map fun (s : Nat) => ([(p.1 : Int), (p.2 : Int), (s : Int)] : T3)) (c := 3) (xs := P) fun p _ => by rw [List.length_map]; exact I3 _ _
    have h2 : P.length * 3 ≤ 6 * 3 := Nat.mul_le_mul_right 3 hP.few
    show (P.flatMap _).length ≤ 18
    omega
  -- what stands in a standing
  let Gd : S → Prop := fun x => ∀ t ∈ x, t ∈ univ vw rows.length ∧ ∀ q v s : Nat, t = [(q : Int), (v : Int), (s : Int)] → (q, v) ∈ P
  have clo : ∀ st : List T3, Gd st → Gd (cloL leT vw rows st) ∧ ∀ l, l < m → (∀ t ∈ st, t ∈ B l) → ∀ t ∈ cloL leT vw rows st, ∀ q v s : Nat, t = [(q : Int), (v : Int), (s : Int)] → t ∈ B l := fun st hs => by
    have h0 : ∀ t ∈ st, t ∈ univ vw rows.length := fun t ht => (hs t ht).1
    have inU : ∀ t, Rch (eps vw rows) st t → t ∈ univ vw rows.length := fun t ht => Rch.sub h0 (fun t ht => eps_ok W ht) ht
    have newP : ∀ t y, Rch (eps vw rows) st t → y ∈ eps vw rows t → ∀ q v s : Nat, y = [(q : Int), (v : Int), (s : Int)] → (q, v) ∈ P ∧ s = 0 := fun t y ht hy q v s e => by
      obtain ⟨q0, hq0, h | ⟨v0, s0, hv0, hs0, h⟩⟩ := mem_univ.mp (inU t ht)
      · subst h
        rw [eps_neg] at hy
        obtain ⟨i, hi, hc, rfl⟩ := mem_epsTo.mp hy
        injection e with e1 e
        injection e with e2 e
        injection e with e3 _
        have e2 : i = v := by have e2 : (i : Int) = (v : Int) := e2; omega
        subst e2
        exact ⟨hP.all q0 hq0 i hi q e1, by have e3 : (0 : Int) = (s : Int) := e3; omega⟩
      · subst h
        rw [eps_pos] at hy
        split at hy
        · rw [List.mem_singleton.mp hy] at e
          injection e with _ e
          injection e with e2 _
          have e2 : (-1 : Int) = (v : Int) := e2
          omega
        · cases hy
    constructor
    · intro t ht
      have ht := (mem_cloL W h0).mp ht
      refine ⟨inU t ht, fun q v s e => ?_⟩
      cases ht with
      | base hm => exact (hs t hm).2 q v s e
      | step hr hy => exact (newP _ _ hr hy q v s e).1
    · intro l hl hB t ht q v s e
      have ht := (mem_cloL W h0).mp ht
      have htU := inU t ht
      cases ht with
      | base hm => exact hB t hm
      | step hr hy =>
        obtain ⟨h1, rfl⟩ := newP _ _ hr hy q v s e
        have eT := e
        obtain ⟨q0, hq0, h | ⟨v0, s0, hv0, hs0, h⟩⟩ := mem_univ.mp htU
        · rw [h] at e
          injection e with _ e
          injection e with e2 _
          have e2 : (-1 : Int) = (v : Int) := e2
          omega
        · rw [h] at e
          injection e with _ e
          injection e with e2 _
          have e2 : v0 = v := by have e2 : (v0 : Int) = (v : Int) := e2; omega
          subst e2
          rw [eT]
          refine List.mem_flatMap.mpr ⟨(q, v0), h1, List.mem_map.mpr ⟨0, ?_, rfl⟩⟩
          rw [IE v0 l ⟨hv0, hl⟩]
          exact (Classical.choose_spec (hI v0 hv0 l hl)).2.1
  have g0 : Gd [[0, -1, 0]] := fun t ht => by
    rw [List.mem_singleton.mp ht]
    refine ⟨univ_start PO.r1 _ List.mem_cons_self, fun q v s e => ?_⟩
    injection e with _ e
    injection e with e2 _
    have e2 : (-1 : Int) = (v : Int) := e2
    omega
  have gLat : ∀ x l, l < m → Gd x → Gd (latO vw x l) ∧ ∀ t ∈ latO vw x l, t ∈ B l := fun x l hl hx => by
    have key : ∀ t ∈ latO vw x l, t ∈ univ vw rows.length ∧ ∃ q v s : Nat, t = [(q : Int), (v : Int), (s : Int)] ∧ (q, v) ∈ P ∧ s ∈ I v l := fun t ht => by
      have hU := latO_ok PO.val (fun t ht => (hx t ht).1) hl t ht
      obtain ⟨u, hu, e⟩ := List.mem_filterMap.mp ht
      refine ⟨hU, ?_⟩
      obtain ⟨q0, hq0, h | ⟨v0, s0, hv0, hs0, h⟩⟩ := mem_univ.mp (hx u hu).1
      · subst h
        cases e
      · subst h
        have e : (if (0 : Int) ≤ (v0 : Int) then some [(q0 : Int), (v0 : Int), ((go (vw.getD v0 ([], [])).1 s0 l : Nat) : Int)] else none) = some t := e
        rw [if_pos (by omega)] at e
        refine ⟨q0, v0, go (vw.getD v0 ([], [])).1 s0 l, (Option.some.inj e).symm, (hx _ hu).2 q0 v0 s0 rfl, ?_⟩
        rw [IE v0 l ⟨hv0, hl⟩]
        exact (Classical.choose_spec (hI v0 hv0 l hl)).2.2 s0 hs0
    refine ⟨fun t ht => ?_, fun t ht => ?_⟩
    · obtain ⟨h1, q, v, s, rfl, h2, h3⟩ := key t ht
      refine ⟨h1, fun q' v' s' e => ?_⟩
      injection e with e1 e
      injection e with e2 _
      have e1 : (q : Int) = (q' : Int) := e1
      have e2 : (v : Int) = (v' : Int) := e2
      have e1 : q = q' := by omega
      have e2 : v = v' := by omega
      rw [← e1, ← e2]
      exact h2
    · obtain ⟨h1, q, v, s, rfl, h2, h3⟩ := key t ht
      exact List.mem_flatMap.mpr ⟨(q, v), h2, List.mem_map.mpr ⟨s, h3, rfl⟩⟩
  have gB : ∀ l, l < m → ∀ y ∈ subs ((B l).filter fun t => decide (t ∈ univ vw rows.length)), Gd y := fun l hl y hy t ht => by
    have h := List.mem_filter.mp (subs_sub hy t ht)
    obtain ⟨p, hp, hs⟩ := List.mem_flatMap.mp h.1
    obtain ⟨s, _, rfl⟩ := List.mem_map.mp hs
    refine ⟨of_decide_eq_true h.2, fun q' v' s' e => ?_⟩
    injection e with e1 e
    injection e with e2 _
    have e1 : (p.1 : Int) = (q' : Int) := e1
    have e2 : (p.2 : Int) = (v' : Int) := e2
    have e1 : p.1 = q' := by omega
    have e2 : p.2 = v' := by omega
    rw [← e1, ← e2]
    exact hp
  let Bu : Nat → List T3 := fun l => (B l).filter fun t => decide (t ∈ univ vw rows.length)
  have Bu18 : ∀ l, (Bu l).length ≤ 18 := fun l => Nat.le_trans (List.length_filter_le _ _) (B18 l)
  let U : List S := x0O vw rows :: (List.range m).flatMap fun l => (subs (Bu l)).map (cloL leT vw rows)
  have gU : ∀ x ∈ U, Gd x ∧ x.Nodup := fun x hx => by
    rcases List.mem_cons.mp hx with rfl | hx
    · exact ⟨(clo _ g0).1, cloL_nodup⟩
    · obtain ⟨l, hl, hx⟩ := List.mem_flatMap.mp hx
      obtain ⟨y, hy, rfl⟩ := List.mem_map.mp hx
      exact ⟨(clo _ (gB l (List.mem_range.mp hl) y hy)).1, cloL_nodup⟩
  refine ⟨U, List.mem_cons_self, fun x hx l hl => ?_, ?_, fun x hx t ht => ((gU x hx).1 t ht).1, fun x hx => ?_⟩
  · obtain ⟨g1, g2⟩ := gLat x l hl (gU x hx).1
    obtain ⟨c1, c2⟩ := clo _ g1
    have h0 : ∀ t ∈ latO vw x l, t ∈ univ vw rows.length := fun t ht => (g1 t ht).1
    refine List.mem_cons_of_mem _ (List.mem_flatMap.mpr ⟨l, List.mem_range.mpr hl, List.mem_map.mpr ⟨(Bu l).filter fun t => decide (t ∈ cloL leT vw rows (latO vw x l)), subs_filter _ _, ?_⟩⟩)
    refine cloL_same fun t => ⟨fun h => K81.Rch.imp (fun t ht => ?_) h, fun h => K81.Rch.imp (fun t ht => ?_) h⟩
    · exact (mem_cloL W h0).mp (of_decide_eq_true (List.mem_filter.mp ht).2)
    · refine .base (List.mem_filter.mpr ⟨List.mem_filter.mpr ⟨g2 t ht, decide_eq_true (h0 t ht)⟩, decide_eq_true ((mem_cloL W h0).mpr (.base ht))⟩)
  · have h1 := flatMap_le (f := fun l => (subs (Bu l)).map (cloL leT vw rows)) (c := 262144) (xs := List.range m) fun l _ => by
      rw [List.length_map, subs_len]
      exact Nat.le_trans (Nat.pow_le_pow_right (by decide) (Bu18 l)) (by decide)
    rw [List.length_range] at h1
    have h2 : m * 262144 ≤ 3 * 262144 := Nat.mul_le_mul_right _ PO.m3
    show (x0O vw rows :: _).length ≤ 1000000
    rw [List.length_cons]
    omega
  · exact Nat.le_trans (nodup_le (gU x hx).2 fun t ht => ((gU x hx).1 t ht).1) PO.few
end
end K81
end
section
set_option Elab.async false
set_option linter.all false
set_option maxRecDepth 100000
/-! Readings of view words. -/
namespace K81
open K81M K81L
/-- w is a reading of u, L s the words of the view s -/
inductive Rdg (L : Nat → List Nat → Prop) : List Nat → List Nat → Prop
  | nil : Rdg L [] []
  | snoc {u a b : List Nat} {s : Nat} : Rdg L u a → L s b → Rdg L (u ++ [s]) (a ++ b)
theorem Rdg.inv0 {L : Nat → List Nat → Prop} {w : List Nat} (h : Rdg L [] w) : w = [] := by
  generalize e : ([] : List Nat) = u at h
  cases h with
  | nil => rfl
  | snoc _ _ => simp at e
theorem Rdg.inv {L : Nat → List Nat → Prop} {u w : List Nat} {s : Nat} (h : Rdg L (u ++ [s]) w) : ∃ a b, Rdg L u a ∧ L s b ∧ w = a ++ b := by
  generalize e : u ++ [s] = u' at h
  cases h with
  | nil => simp at e
  | snoc h1 h2 =>
    obtain ⟨e1, e2⟩ := List.append_inj' e rfl
    subst e1
    injection e2 with e2 _
    subst e2
    exact ⟨_, _, h1, h2, rfl⟩
theorem Rdg.congr {L L' : Nat → List Nat → Prop} {m k : Nat} (h : ∀ s b, s < k → (∀ l ∈ b, l < m) → L s b → L' s b) {u w : List Nat} (r : Rdg L u w) : (∀ s ∈ u, s < k) → (∀ l ∈ w, l < m) → Rdg L' u w := by
  induction r with
  | nil => exact fun _ _ => .nil
  | snoc _ hb ih =>
    intro hu hw
    exact .snoc (ih (fun s hs => hu s (List.mem_append_left _ hs)) fun l hl => hw l (List.mem_append_left _ hl)) (h _ _ (hu _ (List.mem_append_right _ List.mem_cons_self)) (fun l hl => hw l (List.mem_append_right _ hl)) hb)
theorem Rdg.congr_iff {L L' : Nat → List Nat → Prop} {m k : Nat} (h : ∀ s b, s < k → (∀ l ∈ b, l < m) → (L s b ↔ L' s b)) {u w : List Nat} (hu : ∀ s ∈ u, s < k) (hw : ∀ l ∈ w, l < m) : Rdg L u w ↔ Rdg L' u w :=
  ⟨fun r => r.congr (fun s b h1 h2 => (h s b h1 h2).mp) hu hw, fun r => r.congr (fun s b h1 h2 => (h s b h1 h2).mpr) hu hw⟩
/-- pieces that a machine's steps allow -/
theorem pcs_rdg {E : Nat → List Nat → Nat → Prop} {L : Nat → List Nat → Prop} {st : List (List Nat)} {k n : Nat} (n0 : 0 < n) (hg : ∀ q, q < n → ∀ s, s < k → go st q s < n) (hE : ∀ q, q < n → ∀ b q', E q b q' ↔ ∃ s, s < k ∧ go st q s = q' ∧ L s b) {q : Nat} {w : List Nat} :
    Pcs E q w ↔ ∃ u, (∀ s ∈ u, s < k) ∧ run st 0 u = q ∧ Rdg L u w := by
  constructor
  · intro p
    have key : q < n ∧ ∃ u, (∀ s ∈ u, s < k) ∧ run st 0 u = q ∧ Rdg L u w := by
      induction p with
      | nil => exact ⟨n0, [], (fun s hs => by cases hs), rfl, .nil⟩
      | piece _ he ih =>
        obtain ⟨hq, u, h1, h2, h3⟩ := ih
        obtain ⟨s, hs, h4, h5⟩ := (hE _ hq _ _).mp he
        refine ⟨by rw [← h4]; exact hg _ hq s hs, u ++ [s], fun x hx => ?_, by rw [run_app, h2]; exact h4, .snoc h3 h5⟩
        rcases List.mem_append.mp hx with hx | hx
        · exact h1 x hx
        · rw [List.mem_singleton.mp hx]; exact hs
    exact key.2
  · rintro ⟨u, h1, rfl, h3⟩
    have key : run st 0 u < n ∧ Pcs E (run st 0 u) w := by
      induction h3 with
      | nil => exact ⟨n0, .nil⟩
      | @snoc u a b s _ hb ih =>
        obtain ⟨i1, i2⟩ := ih fun x hx => h1 x (List.mem_append_left _ hx)
        have hs := h1 s (List.mem_append_right _ List.mem_cons_self)
        rw [run_app]
        exact ⟨hg _ i1 s hs, .piece i2 ((hE _ i1 _ _).mpr ⟨s, hs, rfl, hb⟩)⟩
    exact key.2
/-- pieces one behind another in a chain -/
theorem pcs_chain {E : Nat → List Nat → Nat → Prop} {L : Nat → List Nat → Prop} {u : List Nat} (hE : ∀ q, q < u.length → ∀ b q', E q b q' ↔ q' = q + 1 ∧ L (u.getD q 0) b) (hE2 : ∀ q b q', E q b q' → q < q') {q : Nat} {w : List Nat} (hq : q ≤ u.length) :
    Pcs E q w ↔ Rdg L (u.take q) w := by
  have tk : ∀ q, q < u.length → u.take (q + 1) = u.take q ++ [u.getD q 0] := fun q h => by
    rw [List.take_add_one, List.getElem?_eq_getElem h, List.getD_eq_getElem?_getD, List.getElem?_eq_getElem h] <;> rfl
  constructor
  · intro p
    revert hq
    induction p with
    | nil => exact fun _ => .nil
    | @piece q q' a b _ he ih =>
      intro hq'
      have h1 := hE2 _ _ _ he
      obtain ⟨rfl, h2⟩ := (hE q (by omega) b q').mp he
      rw [tk q (by omega)]
      exact .snoc (ih (by omega)) h2
  · intro r
    induction q generalizing w with
    | zero =>
      rw [List.take_zero] at r
      rw [r.inv0]
      exact .nil
    | succ q ih =>
      rw [tk q (by omega)] at r
      obtain ⟨a, b, h1, h2, rfl⟩ := r.inv
      exact .piece (ih (by omega) h1) ((hE q (by omega) b (q + 1)).mpr ⟨rfl, h2⟩)
/-! ### what the law reads -/
abbrev LvW (ws : List View) (s : Nat) (b : List Nat) : Prop := letV (ws.getD s ([], [])) b
theorem rdB_iff {ws : List View} {m n : Nat} (u : List Nat) : ∀ w, RdB ws m n u w ↔ w ∈ wordsTo m n ∧ Rdg (LvW ws) u w := by
  revert u
  refine snocInd (fun w => ?_) fun u s ih w => ?_
  · constructor
    · intro h
      have h : w = [] := h
      rw [h]
      exact ⟨wordsTo_mem.mpr ⟨Nat.zero_le _, fun l hl => by cases hl⟩, .nil⟩
    · rintro ⟨_, h⟩
      exact h.inv0
  · rw [RdB_snoc]
    constructor
    · rintro ⟨a, b, h1, rfl, h3, h4, h5⟩
      obtain ⟨h6, h7⟩ := (ih a).mp h1
      refine ⟨wordsTo_mem.mpr ⟨h3, fun l hl => ?_⟩, .snoc h7 h5⟩
      rcases List.mem_append.mp hl with z | z
      · exact (wordsTo_mem.mp h6).2 l z
      · exact (wordsTo_mem.mp h4).2 l z
    · rintro ⟨h1, h2⟩
      obtain ⟨a, b, h3, h4, rfl⟩ := h2.inv
      obtain ⟨h5, h6⟩ := wordsTo_mem.mp h1
      have h7 := h5
      rw [List.length_append] at h7
      exact ⟨a, b, (ih a).mpr ⟨wordsTo_mem.mpr ⟨by omega, fun l hl => h6 l (List.mem_append_left _ hl)⟩, h3⟩, rfl, h5, wordsTo_mem.mpr ⟨by omega, fun l hl => h6 l (List.mem_append_right _ hl)⟩, h4⟩
theorem isOp_iff {ws : List View} {ov : View} {b : List Nat} {r : List Nd} {k : Nat} (hB : Bfs (fun x => opNext ws ov b x k) [(0, 0)] 0 r) : IsOp ws ov b r = true ↔ ∃ u, (∀ s ∈ u, s < k) ∧ run ov.1 0 u ∈ ov.2 ∧ Rdg (LvW ws) u b := by
  have fwd : ∀ x ∈ r, x.1 ≤ b.length ∧ ∃ u, (∀ s ∈ u, s < k) ∧ run ov.1 0 u = x.2 ∧ Rdg (LvW ws) u (b.take x.1) := by
    refine hB.all (C := fun x => x.1 ≤ b.length ∧ ∃ u, (∀ s ∈ u, s < k) ∧ run ov.1 0 u = x.2 ∧ Rdg (LvW ws) u (b.take x.1)) (fun x hx y hy => ?_) fun x hx => ?_
    · obtain ⟨hx1, u, h1, h2, h3⟩ := hx
      obtain ⟨s, hs, hy⟩ := opNext_mem.mp hy
      obtain ⟨j, hj, hl, rfl⟩ := opNext1_mem.mp hy
      refine ⟨by show x.1 + j ≤ b.length; omega, u ++ [s], fun z hz => ?_, by rw [run_app, h2] <;> rfl, ?_⟩
      · rcases List.mem_append.mp hz with hz | hz
        · exact h1 z hz
        · rw [List.mem_singleton.mp hz]; exact hs
      · show Rdg (LvW ws) (u ++ [s]) (b.take (x.1 + j))
        rw [List.take_add]
        exact .snoc h3 hl
    · rw [List.mem_singleton.mp hx]
      exact ⟨Nat.zero_le _, [], (fun s hs => by cases hs), rfl, .nil⟩
  have bwd : ∀ u a, Rdg (LvW ws) u a → (∀ s ∈ u, s < k) → ∀ c, b = a ++ c → (a.length, run ov.1 0 u) ∈ r := by
    intro u a h
    induction h with
    | nil => exact fun _ c _ => hB.sub List.mem_cons_self
    | @snoc u a b' s _ hl ih =>
      intro hu c hc
      have i1 := ih (fun x hx => hu x (List.mem_append_left _ hx)) (b' ++ c) (by rw [hc, List.append_assoc])
      refine hB.closed0 _ i1 _ (opNext_mem.mpr ⟨s, hu s (List.mem_append_right _ List.mem_cons_self), opNext1_mem.mpr ⟨b'.length, ?_, ?_, ?_⟩⟩)
      · show b'.length < b.length + 1 - a.length
        rw [hc, List.length_append, List.length_append]
        omega
      · show run (ws.getD s ([], [])).1 0 ((b.drop a.length).take b'.length) ∈ (ws.getD s ([], [])).2
        rw [hc, List.append_assoc, List.drop_left, List.take_left]
        exact hl
      · rw [List.length_append, run_app] <;> rfl
  unfold IsOp
  rw [List.any_eq_true]
  constructor
  · rintro ⟨x, hx, h⟩
    rw [Bool.and_eq_true] at h
    have e1 : x.1 = b.length := of_decide_eq_true h.1
    obtain ⟨_, u, h1, h2, h3⟩ := fwd x hx
    rw [e1, List.take_length] at h3
    exact ⟨u, h1, by rw [h2]; exact of_decide_eq_true h.2, h3⟩
  · rintro ⟨u, h1, h2, h3⟩
    refine ⟨_, bwd u b h3 h1 [] (List.append_nil b).symm, ?_⟩
    rw [Bool.and_eq_true]
    exact ⟨decide_eq_true rfl, decide_eq_true h2⟩
/-! ### rows -/
theorem toR_getD {st : List (List Nat)} {q : Nat} : (toR st).getD q [] = toI (st.getD q []) := by
  show (st.map toI).getD q [] = _
  simp only [List.getD_eq_getElem?_getD, List.getElem?_map]
  cases st[q]? <;> rfl
theorem toI_getD {r : List Nat} {v : Nat} : (toI r).getD v 0 = ((r.getD v 0 : Nat) : Int) := by
  show (r.map fun (n : Nat) => (n : Int)).getD v 0 = _
  simp only [List.getD_eq_getElem?_getD, List.getElem?_map]
  cases r[v]? <;> rfl
theorem EdV_toR {cs : List View} {st : List (List Nat)} {en : List Nat} {k : Nat} (V : Valid k st en) {q : Nat} (hq : q < st.length) (b : List Nat) (q' : Nat) : EdV cs (toR st) q b q' ↔ ∃ s, s < k ∧ go st q s = q' ∧ LvW cs s b := by
  have lr : (st.getD q []).length = k := by
    rw [List.getD_eq_getElem?_getD, List.getElem?_eq_getElem hq]
    exact (V.row _ (List.getElem_mem hq)).1
  unfold EdV
  rw [toR_getD]
  constructor
  · rintro ⟨v, h1, h2, h3⟩
    rw [List.length_map, lr] at h1
    rw [toI_getD] at h2
    exact ⟨v, h1, by unfold go; omega, h3⟩
  · rintro ⟨v, h1, h2, h3⟩
    refine ⟨v, by rw [List.length_map, lr]; exact h1, ?_, h3⟩
    rw [toI_getD]
    unfold go at h2
    omega
theorem rowsR_getD {k : Nat} {u : List Nat} {q : Nat} (hq : q < u.length + 1) : (rowsR k u).getD q [] = rowT k u u.length q := by
  rw [List.getD_eq_getElem?_getD, show (rowsR k u)[q]? = some (rowT k u u.length q) from rowsT_get hq] <;> rfl
theorem rowsR_out {k : Nat} {u : List Nat} {q : Nat} (hq : ¬ q < u.length + 1) : (rowsR k u).getD q [] = [] := by
  rw [List.getD_eq_getElem?_getD, List.getElem?_eq_none (by rw [show (rowsR k u).length = u.length + 1 from rowsT_len]; omega)] <;> rfl
theorem rowT_getD {k : Nat} {u : List Nat} {q v : Nat} (hv : v < k) : (rowT k u u.length q).getD v 0 = if q < u.length ∧ u[q]? = some v then ((q : Int) + 1) else -1 := by
  unfold rowT
  rw [List.getD_eq_getElem?_getD, List.getElem?_map, List.getElem?_range hv] <;> rfl
theorem EdV_rowsR {cs : List View} {u : List Nat} (hu : ∀ s ∈ u, s < cs.length) {q : Nat} (hq : q < u.length) (b : List Nat) (q' : Nat) : EdV cs (rowsR cs.length u) q b q' ↔ q' = q + 1 ∧ LvW cs (u.getD q 0) b := by
  have eu : u.getD q 0 = u[q] := by rw [List.getD_eq_getElem?_getD, List.getElem?_eq_getElem hq] <;> rfl
  unfold EdV
  rw [rowsR_getD (by omega), rowT_len, eu]
  constructor
  · rintro ⟨v, h1, h2, h3⟩
    rw [rowT_getD h1] at h2
    split at h2
    · rename_i c
      rw [List.getElem?_eq_getElem hq] at c
      rw [Option.some.inj c.2]
      exact ⟨by omega, h3⟩
    · omega
  · rintro ⟨rfl, h⟩
    have hv := hu _ (List.getElem_mem hq)
    refine ⟨u[q], hv, ?_, h⟩
    rw [rowT_getD hv, if_pos ⟨hq, List.getElem?_eq_getElem hq⟩]
    omega
theorem EdV_up {cs : List View} {u : List Nat} {q : Nat} {b : List Nat} {q' : Nat} (h : EdV cs (rowsR cs.length u) q b q') : q < q' := by
  obtain ⟨v, h1, h2, _⟩ := h
  by_cases hq : q < u.length + 1
  · rw [rowsR_getD hq, rowT_len] at h1
    rw [rowsR_getD hq, rowT_getD h1] at h2
    split at h2 <;> omega
  · rw [rowsR_out hq] at h1
    exact absurd h1 (Nat.not_lt_zero _)
end K81
end
section
set_option Elab.async false
set_option linter.all false
set_option maxRecDepth 100000
/-! The plain law. -/
namespace K81
open K81M K81L
/-! ### words' machines -/
def noL (k : Nat) : Lang := clip k fun _ => false
theorem der_noL {k s : Nat} (hs : s < k) : der s (noL k) = noL k := by
  unfold noL
  rw [clip_der _ hs]
theorem der_wordL {k s : Nat} (hs : s < k) {u : List Nat} {i : Nat} : der s (wordL k (u.drop i)) = noL k ∨ (u[i]? = some s ∧ der s (wordL k (u.drop i)) = wordL k (u.drop (i + 1))) := by
  unfold wordL noL
  rw [clip_der _ hs]
  by_cases hi : i < u.length
  · rw [List.drop_eq_getElem_cons hi]
    by_cases e : u[i] = s
    · right
      refine ⟨by rw [List.getElem?_eq_getElem hi, e], ?_⟩
      congr 1
      funext w
      rw [e]
      exact decide_eq_decide.mpr ⟨fun h => by injection h, fun h => by rw [h]⟩
    · left
      congr 1
      funext w
      exact decide_eq_false fun h => by injection h with h _; exact e h.symm
  · left
    rw [List.drop_eq_nil_of_le (by omega)]
    congr 1
theorem word_mem {k : Nat} {u : List Nat} {R : List Lang} (b : Bfs (nextL k) [wordL k u] 0 R) : ∀ M ∈ R, M = noL k ∨ ∃ i, i ≤ u.length ∧ M = wordL k (u.drop i) := by
  refine b.all (C := fun M => M = noL k ∨ ∃ i, i ≤ u.length ∧ M = wordL k (u.drop i)) (fun M hM N hN => ?_) fun M hM => ?_
  · obtain ⟨s, hs, rfl⟩ := mem_nextL.mp hN
    rcases hM with rfl | ⟨i, hi, rfl⟩
    · exact .inl (der_noL hs)
    · rcases der_wordL hs (u := u) (i := i) with h | ⟨h1, h2⟩
      · exact .inl h
      · have := (List.getElem?_eq_some_iff.mp h1).1
        exact .inr ⟨i + 1, by omega, h2⟩
  · rw [List.mem_singleton.mp hM]
    exact .inr ⟨0, Nat.zero_le _, rfl⟩
theorem word_len {k : Nat} {u : List Nat} {st : List (List Nat)} {en : List Nat} (h : Canon k (wordL k u) st en) : st.length ≤ u.length + 2 := by
  obtain ⟨R, b, rfl, rfl⟩ := h
  rw [List.length_map]
  have := nodup_le (b.nodup (List.nodup_cons.mpr ⟨by simp, List.nodup_nil⟩)) (U := noL k :: (List.range (u.length + 1)).map fun i => wordL k (u.drop i)) fun M hM => by
    rcases word_mem b M hM with rfl | ⟨i, hi, rfl⟩
    · exact List.mem_cons_self
    · exact List.mem_cons_of_mem _ (List.mem_map.mpr ⟨i, List.mem_range.mpr (by omega), rfl⟩)
  rwa [List.length_cons, List.length_map, List.length_range] at this
theorem word_go {k : Nat} {u : List Nat} {st : List (List Nat)} {en : List Nat} (h : Canon k (wordL k u) st en) : ∃ (d : Nat) (ψ : Nat → Nat), ∀ q, q < st.length → ∀ s, s < k → go st q s = d ∨ ∃ i, u[i]? = some s ∧ go st q s = ψ i := by
  obtain ⟨R, b, rfl, rfl⟩ := h
  have nd : R.Nodup := b.nodup (List.nodup_cons.mpr ⟨by simp, List.nodup_nil⟩)
  refine ⟨R.idxOf (noL k), fun i => R.idxOf (wordL k (u.drop (i + 1))), fun q hq s hs => ?_⟩
  rw [List.length_map] at hq
  have eq : R.idxOf R[q] = q := by
    have h1 := idxOf_get (List.getElem_mem hq)
    have h2 : R[q]? = some R[q] := List.getElem?_eq_getElem hq
    exact (List.getElem?_inj (List.idxOf_lt_length_of_mem (List.getElem_mem hq)) nd).mp (h1.trans h2.symm)
  have hg := canon_go (m := k) (List.getElem_mem hq) hs
  rw [eq] at hg
  rw [hg]
  rcases word_mem b R[q] (List.getElem_mem hq) with e | ⟨i, hi, e⟩
  · rw [e, der_noL hs]; exact .inl rfl
  · rw [e]
    rcases der_wordL hs (u := u) (i := i) with h | ⟨h1, h2⟩
    · rw [h]; exact .inl rfl
    · rw [h2]; exact .inr ⟨i, h1, rfl⟩
/-! ### few residuals over fewer letters -/
theorem few_clip {m : Nat} {L L2 : Lang} (hm : m ≤ 2) (F : Few 2 L2) (e : ∀ w, L w = (w.all (fun l => decide (l < m)) && L2 w)) : Few m L := by
  obtain ⟨U, h60, hL, hU⟩ := F
  let cl : Lang → Lang := fun M => clip m M
  refine ⟨U.map cl, by rw [List.length_map]; exact h60, List.mem_map.mpr ⟨L2, hL, (funext e).symm⟩, fun M hM l hl => ?_⟩
  obtain ⟨N, hN, rfl⟩ := List.mem_map.mp hM
  refine List.mem_map.mpr ⟨der l N, hU N hN l (by omega), ?_⟩
  funext w
  show (w.all (fun l => decide (l < m)) && N (l :: w)) = ((l :: w).all (fun l => decide (l < m)) && N (l :: w))
  rw [List.all_cons, decide_eq_true hl, Bool.true_and]
theorem few_le {m : Nat} {L : Lang} {st : List (List Nat)} {en : List Nat} (F : Few m L) (h : Canon m L st en) : st.length ≤ 60 := by
  obtain ⟨U, h60, hL, hU⟩ := F
  exact Nat.le_trans (h.few U hL hU) h60
section
variable {m : Nat} {vs cs : List View} (G : Good m vs cs)
include G
theorem Good.m12 : 1 ≤ m ∧ m ≤ 2 := by have := G.mm; omega
theorem Good.len : cs.length = vs.length := (Paired.len G.can).symm
theorem Good.at_ {i : Nat} {c : View} (h : cs[i]? = some c) : ∃ v t f, vs[i]? = some v ∧ KOk v t f ∧ Canon m (lang m (cutW m v).1 (cutW m v).2) c.1 c.2 := by
  obtain ⟨v, hv, hC⟩ := Paired.get' G.can h
  obtain ⟨t, f, K⟩ := v_kind (G.are v (List.mem_of_getElem? hv))
  exact ⟨v, t, f, hv, K, hC⟩
theorem Good.get {i : Nat} (h : i < vs.length) : ∃ v c t f, vs[i]? = some v ∧ cs[i]? = some c ∧ KOk v t f ∧ Canon m (lang m (cutW m v).1 (cutW m v).2) c.1 c.2 := by
  obtain ⟨c, hc⟩ : ∃ c, cs[i]? = some c := ⟨_, List.getElem?_eq_getElem (by rw [G.len]; exact h)⟩
  obtain ⟨v, t, f, h1, h2, h3⟩ := G.at_ hc
  exact ⟨v, _, t, f, h1, hc, h2, h3⟩
theorem Good.val : ∀ c ∈ cs, Valid m c.1 c.2 := fun c hc => by
  obtain ⟨i, hi⟩ := List.mem_iff_getElem?.mp hc
  obtain ⟨v, t, f, _, _, h⟩ := G.at_ hi
  exact h.valid
theorem Good.four : ∀ c ∈ cs, c.1.length ≤ 4 := fun c hc => by
  obtain ⟨i, hi⟩ := List.mem_iff_getElem?.mp hc
  obtain ⟨v, t, f, _, K, h⟩ := G.at_ hi
  have h1 := canon_len (K.vok G.mm).val h
  have h2 : (cutW m v).1.length = v.1.length := List.length_map _
  have := K.n4
  omega
theorem Good.few3 : ∀ i, i < cs.length → Few3 m (cs.getD i ([], [])) := fun i hi => by
  have hc : cs[i]? = some cs[i] := List.getElem?_eq_getElem hi
  obtain ⟨v, t, f, _, K, h⟩ := G.at_ hc
  rw [List.getD_eq_getElem?_getD, hc]
  have h2 : (cutW m v).1.length = v.1.length := List.length_map _
  refine canon_im (K.vok G.mm).val h fun l hl => ?_
  have e : (List.range (cutW m v).1.length).map (fun s => go (cutW m v).1 s l) = (List.range v.1.length).map fun s => go v.1 s l := by
    rw [h2]
    exact List.map_congr_left fun s _ => cut_go hl
  rw [e]
  have := G.m12
  exact K.im l (by omega)
theorem Good.pok {rows : List (List Int)} (W : Wf cs rows) (r1 : 1 ≤ rows.length) (r10 : rows.length ≤ 10) : POk cs rows m := by
  have h1 := G.m12
  have h2 := G.len
  have h3 := G.v1
  have h4 := G.v3
  exact ⟨W, G.val, h1.1, by omega, by omega, by omega, r1, univ_few r10 (by omega) G.four⟩
theorem Good.same {s : Nat} {b : List Nat} (hs : s < vs.length) (hb : ∀ l ∈ b, l < m) : LvW cs s b ↔ LvW (vs.map (cutW m)) s b := by
  obtain ⟨v, c, t, f, h1, h2, K, hC⟩ := G.get hs
  have e1 : cs.getD s ([], []) = c := by rw [List.getD_eq_getElem?_getD, h2] <;> rfl
  have e2 : (vs.map (cutW m)).getD s ([], []) = cutW m v := by rw [List.getD_eq_getElem?_getD, List.getElem?_map, h1] <;> rfl
  unfold LvW letV
  rw [e1, e2]
  have hl := hC.lets hb
  have all : b.all (fun l => decide (l < m)) = true := List.all_eq_true.mpr fun l hl => decide_eq_true (hb l hl)
  have e3 : lang m (cutW m v).1 (cutW m v).2 b = decide (run (cutW m v).1 0 b ∈ (cutW m v).2) := by
    show (b.all (fun l => decide (l < m)) && decide (run (cutW m v).1 0 b ∈ (cutW m v).2)) = _
    rw [all, Bool.true_and]
  rw [e3] at hl
  exact decide_eq_decide.mp hl
theorem Good.kinds : ∃ τ : Nat → Nat, (∀ s, τ s < 29) ∧ ∀ s b, s < vs.length → (∀ l ∈ b, l < m) → (LvW (vs.map (cutW m)) s b ↔ KL (τ s) b) := by
  have h : ∀ s, ∃ t, t < 29 ∧ ∀ b, s < vs.length → (∀ l ∈ b, l < m) → (LvW (vs.map (cutW m)) s b ↔ KL t b) := fun s => by
    by_cases hs : s < vs.length
    · obtain ⟨v, c, t, f, h1, h2, K, hC⟩ := G.get hs
      refine ⟨t, K.t29, fun b _ hb => ?_⟩
      have e2 : (vs.map (cutW m)).getD s ([], []) = cutW m v := by rw [List.getD_eq_getElem?_getD, List.getElem?_map, h1] <;> rfl
      unfold LvW letV
      rw [e2, cut_run hb]
      have := G.m12
      exact K.lang fun l hl => by have := hb l hl; omega
    · exact ⟨0, by decide, fun b h => absurd h hs⟩
  exact ⟨fun s => Classical.choose (h s), fun s => (Classical.choose_spec (h s)).1, fun s b => (Classical.choose_spec (h s)).2 b⟩
theorem Good.wf_toR {st : List (List Nat)} {en : List Nat} (V : Valid vs.length st en) : Wf cs (toR st) := by
  refine ⟨fun r hr => ?_, fun r hr x hx => ?_, fun v hv => (G.val v hv).pos⟩
  · obtain ⟨r', hr', rfl⟩ := List.mem_map.mp hr
    rw [List.length_map, (V.row r' hr').1, G.len]
  · obtain ⟨r', hr', rfl⟩ := List.mem_map.mp hr
    obtain ⟨q, hq, rfl⟩ := List.mem_map.mp hx
    have := (V.row r' hr').2 q hq
    rw [List.length_map]
    omega
theorem Good.wf_rowsR {u : List Nat} : Wf cs (rowsR cs.length u) := by
  have el : (rowsR cs.length u).length = u.length + 1 := rowsT_len
  refine ⟨fun r hr => ?_, fun r hr x hx => ?_, fun v hv => (G.val v hv).pos⟩
  · obtain ⟨i, _, rfl⟩ := List.mem_map.mp hr
    exact rowT_len
  · obtain ⟨i, hi, rfl⟩ := List.mem_map.mp hr
    obtain ⟨s, _, rfl⟩ := List.mem_map.mp hx
    rw [el]
    split
    · rename_i c
      omega
    · omega
theorem Good.op_toR {st : List (List Nat)} {en : List Nat} (V : Valid vs.length st en) {w : List Nat} : opL cs (toR st) en m w = true ↔ (∀ l ∈ w, l < m) ∧ ∃ u, (∀ s ∈ u, s < vs.length) ∧ run st 0 u ∈ en ∧ Rdg (LvW cs) u w := by
  rw [opL_iff' (G.wf_toR V) G.val (by rw [List.length_map]; exact V.pos)]
  refine and_congr_right fun _ => ?_
  constructor
  · rintro ⟨q, hq, p⟩
    obtain ⟨u, h1, h2, h3⟩ := (pcs_rdg V.pos (fun q hq s hs => V.go hq hs) (fun q hq b q' => EdV_toR V hq b q')).mp p
    exact ⟨u, h1, by rw [h2]; exact hq, h3⟩
  · rintro ⟨u, h1, h2, h3⟩
    exact ⟨_, h2, (pcs_rdg V.pos (fun q hq s hs => V.go hq hs) (fun q hq b q' => EdV_toR V hq b q')).mpr ⟨u, h1, rfl, h3⟩⟩
theorem Good.op_rowsR {u : List Nat} (hu : ∀ s ∈ u, s < vs.length) {w : List Nat} : opL cs (rowsR cs.length u) [u.length] m w = true ↔ (∀ l ∈ w, l < m) ∧ Rdg (LvW cs) u w := by
  have hu' : ∀ s ∈ u, s < cs.length := fun s hs => by rw [G.len]; exact hu s hs
  rw [opL_iff' G.wf_rowsR G.val (by rw [show (rowsR cs.length u).length = u.length + 1 from rowsT_len]; omega)]
  refine and_congr_right fun _ => ?_
  have key := pcs_chain (E := EdV cs (rowsR cs.length u)) (L := LvW cs) (u := u) (fun q hq b q' => EdV_rowsR hu' hq b q') (fun q b q' h => EdV_up h) (q := u.length) (w := w) (Nat.le_refl _)
  rw [List.take_length] at key
  constructor
  · rintro ⟨q, hq, p⟩
    rw [List.mem_singleton.mp hq] at p
    exact key.mp p
  · exact fun h => ⟨_, List.mem_singleton.mpr rfl, key.mpr h⟩
/-! ### few residuals -/
open Classical in
theorem Good.few_open {ov : View} {so : List (List Nat)} {eo : List Nat} (hO : OverOk vs.length ov) (hC : Canon vs.length (lang vs.length ov.1 ov.2) so eo) : Few m (opL cs (toR so) eo m) := by
  obtain ⟨τ, h29, hτ⟩ := G.kinds
  have oV := hO.val
  have o2 : ov.1.length = 2 := by obtain ⟨r0, r1, e⟩ := hO.two; rw [e] <;> rfl
  have hgo : ∀ q, q < 2 → ∀ s, s < vs.length → go ov.1 q s < 2 := fun q hq s hs => by
    have := oV.go (q := q) (by omega) hs
    omega
  let xs : List (Nat × Nat) := (List.range vs.length).map fun v => (τ v, go ov.1 0 v + 2 * go ov.1 1 v)
  have F : Few 2 (LgE (EdX xs) ov.2) := few_X (by rw [List.length_map, List.length_range]; exact G.v1) (by rw [List.length_map, List.length_range]; exact G.v3) (fun x hx => by
    obtain ⟨v, hv, rfl⟩ := List.mem_map.mp hx
    have hv := List.mem_range.mp hv
    have a := hgo 0 (by decide) v hv
    have b := hgo 1 (by decide) v hv
    exact ⟨h29 v, by show go ov.1 0 v + 2 * go ov.1 1 v < 4; omega⟩) hO.ends
  have hE : ∀ q, q < 2 → ∀ b q', EdX xs q b q' ↔ ∃ s, s < vs.length ∧ go ov.1 q s = q' ∧ KL (τ s) b := fun q hq b q' => by
    have tgE : ∀ v, v < vs.length → tg (go ov.1 0 v + 2 * go ov.1 1 v) q = go ov.1 q v := fun v hv => by
      have a := hgo 0 (by decide) v hv
      have b := hgo 1 (by decide) v hv
      have e : q = 0 ∨ q = 1 := by omega
      rcases e with rfl | rfl
      · show (go ov.1 0 v + 2 * go ov.1 1 v) % 2 = _
        omega
      · show (go ov.1 0 v + 2 * go ov.1 1 v) / 2 = _
        omega
    constructor
    · rintro ⟨_, x, hx, h1, h2⟩
      obtain ⟨v, hv, rfl⟩ := List.mem_map.mp hx
      have hv := List.mem_range.mp hv
      exact ⟨v, hv, by rw [← tgE v hv]; exact h1, h2⟩
    · rintro ⟨v, hv, h1, h2⟩
      exact ⟨hq, _, List.mem_map.mpr ⟨v, List.mem_range.mpr hv, rfl⟩, by rw [← h1]; exact tgE v hv, h2⟩
  refine few_clip (by have := G.m12; omega) F fun w => ?_
  rw [Bool.eq_iff_iff, G.op_toR hC.valid, Bool.and_eq_true, List.all_eq_true]
  have hm := G.m12
  constructor
  · rintro ⟨h1, u, hu, hr, hd⟩
    refine ⟨fun l hl => decide_eq_true (h1 l hl), ?_⟩
    show (w.all (fun l => decide (l < 2)) && decide (∃ q ∈ ov.2, Pcs (EdX xs) q w)) = true
    rw [Bool.and_eq_true, List.all_eq_true]
    refine ⟨fun l hl => decide_eq_true (by have := h1 l hl; omega), decide_eq_true ⟨run ov.1 0 u, ?_, (pcs_rdg (by decide) hgo hE).mpr ⟨u, hu, rfl, ?_⟩⟩⟩
    · have hl := hC.lets hu
      rw [decide_eq_true hr] at hl
      have hl : (u.all (fun l => decide (l < vs.length)) && decide (run ov.1 0 u ∈ ov.2)) = true := hl.symm
      rw [Bool.and_eq_true] at hl
      exact of_decide_eq_true hl.2
    · exact hd.congr (fun s b hs hb h => (hτ s b hs hb).mp ((G.same hs hb).mp h)) hu h1
  · rintro ⟨h1, h2⟩
    have h1 : ∀ l ∈ w, l < m := fun l hl => of_decide_eq_true (h1 l hl)
    have h2 : (w.all (fun l => decide (l < 2)) && decide (∃ q ∈ ov.2, Pcs (EdX xs) q w)) = true := h2
    rw [Bool.and_eq_true] at h2
    obtain ⟨q, hq, p⟩ := of_decide_eq_true h2.2
    obtain ⟨u, hu, e, hd⟩ := (pcs_rdg (by decide) hgo hE).mp p
    refine ⟨h1, u, hu, ?_, hd.congr (fun s b hs hb h => (G.same hs hb).mpr ((hτ s b hs hb).mpr h)) hu h1⟩
    have hl := hC.lets hu
    have e3 : lang vs.length ov.1 ov.2 u = true := by
      show (u.all (fun l => decide (l < vs.length)) && decide (run ov.1 0 u ∈ ov.2)) = true
      rw [Bool.and_eq_true, List.all_eq_true]
      exact ⟨fun l hl => decide_eq_true (hu l hl), decide_eq_true (by rw [e]; exact hq)⟩
    rw [e3] at hl
    exact of_decide_eq_true hl
open Classical in
theorem Good.few_read {u : List Nat} (hu : ∀ s ∈ u, s < vs.length) (u3 : u.length ≤ 3) : Few m (opL cs (rowsR cs.length u) [u.length] m) := by
  obtain ⟨τ, h29, hτ⟩ := G.kinds
  have F : Few 2 (LgE (EdC (τ (u.getD 0 0)) (τ (u.getD 1 0)) (τ (u.getD 2 0))) [u.length]) := few_C (h29 _) (h29 _) (h29 _)
  have hm := G.m12
  have hE : ∀ q, q < u.length → ∀ b q', EdC (τ (u.getD 0 0)) (τ (u.getD 1 0)) (τ (u.getD 2 0)) q b q' ↔ q' = q + 1 ∧ KL (τ (u.getD q 0)) b := fun q hq b q' => by
    have e : q = 0 ∨ q = 1 ∨ q = 2 := by omega
    unfold EdC
    rcases e with rfl | rfl | rfl
    · constructor
      · rintro (⟨_, h1, h2⟩ | ⟨h, _⟩ | ⟨h, _⟩)
        · exact ⟨h1, h2⟩
        · omega
        · omega
      · rintro ⟨h1, h2⟩; exact .inl ⟨rfl, h1, h2⟩
    · constructor
      · rintro (⟨h, _⟩ | ⟨_, h1, h2⟩ | ⟨h, _⟩)
        · omega
        · exact ⟨h1, h2⟩
        · omega
      · rintro ⟨h1, h2⟩; exact .inr (.inl ⟨rfl, h1, h2⟩)
    · constructor
      · rintro (⟨h, _⟩ | ⟨h, _⟩ | ⟨_, h1, h2⟩)
        · omega
        · omega
        · exact ⟨h1, h2⟩
      · rintro ⟨h1, h2⟩; exact .inr (.inr ⟨rfl, h1, h2⟩)
  have hE2 : ∀ q b q', EdC (τ (u.getD 0 0)) (τ (u.getD 1 0)) (τ (u.getD 2 0)) q b q' → q < q' := fun q b q' h => by
    rcases h with ⟨rfl, rfl, _⟩ | ⟨rfl, rfl, _⟩ | ⟨rfl, rfl, _⟩ <;> decide
  refine few_clip (by omega) F fun w => ?_
  rw [Bool.eq_iff_iff, G.op_rowsR hu, Bool.and_eq_true, List.all_eq_true]
  have key := pcs_chain (L := fun s b => KL (τ s) b) (u := u) hE hE2 (q := u.length) (w := w) (Nat.le_refl _)
  rw [List.take_length] at key
  constructor
  · rintro ⟨h1, hd⟩
    refine ⟨fun l hl => decide_eq_true (h1 l hl), ?_⟩
    show (w.all (fun l => decide (l < 2)) && decide (∃ q ∈ [u.length], Pcs _ q w)) = true
    rw [Bool.and_eq_true, List.all_eq_true]
    refine ⟨fun l hl => decide_eq_true (by have := h1 l hl; omega), decide_eq_true ⟨_, List.mem_singleton.mpr rfl, key.mpr ?_⟩⟩
    exact hd.congr (fun s b hs hb h => (hτ s b hs hb).mp ((G.same hs hb).mp h)) hu h1
  · rintro ⟨h1, h2⟩
    have h1 : ∀ l ∈ w, l < m := fun l hl => of_decide_eq_true (h1 l hl)
    have h2 : (w.all (fun l => decide (l < 2)) && decide (∃ q ∈ [u.length], Pcs (EdC (τ (u.getD 0 0)) (τ (u.getD 1 0)) (τ (u.getD 2 0))) q w)) = true := h2
    rw [Bool.and_eq_true] at h2
    obtain ⟨q, hq, p⟩ := of_decide_eq_true h2.2
    rw [List.mem_singleton.mp hq] at p
    exact ⟨h1, (key.mp p).congr (fun s b hs hb h => (G.same hs hb).mpr ((hτ s b hs hb).mpr h)) hu h1⟩
end
end K81
end
section
set_option Elab.async false
set_option linter.all false
set_option maxRecDepth 100000
/-! The plain law holds. -/
namespace K81
open K81M K81L
section
variable {m : Nat} {vs cs : List View} (G : Good m vs cs)
include G
theorem Good.prs_toR {st : List (List Nat)} {en : List Nat} (V : Valid vs.length st en) {P : List (Nat × Nat)} (h6 : P.length ≤ 6) (h : ∀ q, q < st.length → ∀ s, s < vs.length → (go st q s, s) ∈ P) : Prs cs (toR st) P := by
  refine ⟨h6, fun q hq v hv q' e => ?_⟩
  have hq : q < st.length := by rw [List.length_map] at hq; exact hq
  have lr : (st.getD q []).length = vs.length := by
    rw [List.getD_eq_getElem?_getD, List.getElem?_eq_getElem hq]
    exact (V.row _ (List.getElem_mem hq)).1
  rw [toR_getD] at hv e
  rw [List.length_map, lr] at hv
  rw [toI_getD] at e
  have e : go st q v = q' := by unfold go; omega
  rw [← e]
  exact h q hq v hv
theorem Good.prs_rowsR {u : List Nat} (u3 : u.length ≤ 3) : Prs cs (rowsR cs.length u) ((List.range u.length).map fun i => (i + 1, u.getD i 0)) := by
  refine ⟨by rw [List.length_map, List.length_range]; omega, fun q hq v hv q' e => ?_⟩
  rw [show (rowsR cs.length u).length = u.length + 1 from rowsT_len] at hq
  rw [rowsR_getD hq, rowT_len] at hv
  rw [rowsR_getD hq, rowT_getD hv] at e
  split at e
  · rename_i c
    refine List.mem_map.mpr ⟨q, List.mem_range.mpr c.1, ?_⟩
    have e1 : u.getD q 0 = v := by rw [List.getD_eq_getElem?_getD, c.2] <;> rfl
    rw [e1]
    have e2 : q + 1 = q' := by omega
    rw [e2]
  · omega
theorem Good.fit_read {u : List Nat} (hu : ∀ s ∈ u, s < vs.length) (u3 : u.length ≤ 3) : Fit cs (rowsR cs.length u) [u.length] m := by
  have el : (rowsR cs.length u).length = u.length + 1 := rowsT_len
  have PO := G.pok G.wf_rowsR (by rw [el]; omega) (by rw [el]; omega)
  exact ⟨PO, uok_of PO (G.prs_rowsR u3) G.few3, fun st' en' h => few_le (G.few_read hu u3) h⟩
theorem Good.fit_open {ov : View} {so : List (List Nat)} {eo : List Nat} (hO : OverOk vs.length ov) (hC : Canon vs.length (lang vs.length ov.1 ov.2) so eo) : Fit cs (toR so) eo m := by
  have o2 : ov.1.length = 2 := by obtain ⟨r0, r1, e⟩ := hO.two; rw [e] <;> rfl
  have l2 := canon_len hO.val hC
  have V := hC.valid
  have PO := G.pok (G.wf_toR V) (by rw [List.length_map]; exact V.pos) (by rw [List.length_map]; omega)
  have P := G.prs_toR V (P := (List.range so.length).flatMap fun q => (List.range vs.length).map fun s => (q, s)) (by
    have := flatMap_le (f := fun q => (List.range vs.length).map fun s => (q, s)) (c := 3) (xs := List.range so.length) fun q _ => by rw [List.length_map, List.length_range]; exact G.v3
    rw [List.length_range] at this
    omega) fun q hq s hs => List.mem_flatMap.mpr ⟨go so q s, List.mem_range.mpr (V.go hq hs), List.mem_map.mpr ⟨s, List.mem_range.mpr hs, rfl⟩⟩
  exact ⟨PO, uok_of PO P G.few3, fun st' en' h => few_le (G.few_open hO hC) h⟩
theorem Good.eq_word {u : List Nat} {sw : List (List Nat)} {ew : List Nat} (hu : ∀ s ∈ u, s < vs.length) (hC : Canon vs.length (wordL vs.length u) sw ew) : opL cs (toR sw) ew m = opL cs (rowsR cs.length u) [u.length] m := by
  funext w
  rw [Bool.eq_iff_iff, G.op_toR hC.valid, G.op_rowsR hu]
  refine and_congr_right fun _ => ?_
  have key : ∀ u', (∀ s ∈ u', s < vs.length) → (run sw 0 u' ∈ ew ↔ u' = u) := fun u' hu' => by
    have h := hC.lets hu'
    have e : wordL vs.length u u' = decide (u' = u) := by
      show (u'.all (fun l => decide (l < vs.length)) && decide (u' = u)) = _
      rw [List.all_eq_true.mpr fun l hl => decide_eq_true (hu' l hl), Bool.true_and]
    rw [e] at h
    exact decide_eq_decide.mp h
  constructor
  · rintro ⟨u', h1, h2, h3⟩
    rw [← (key u' h1).mp h2]
    exact h3
  · exact fun h => ⟨u, hu, (key u hu).mpr rfl, h⟩
theorem Good.fit_word {u : List Nat} {sw : List (List Nat)} {ew : List Nat} (hu : ∀ s ∈ u, s < vs.length) (u3 : u.length ≤ 3) (hC : Canon vs.length (wordL vs.length u) sw ew) : Fit cs (toR sw) ew m := by
  have V := hC.valid
  have l2 := word_len hC
  have PO := G.pok (G.wf_toR V) (by rw [List.length_map]; exact V.pos) (by rw [List.length_map]; omega)
  obtain ⟨d, ψ, hψ⟩ := word_go hC
  have v3 := G.v3
  have P := G.prs_toR V (P := (List.range vs.length).map (fun s => (d, s)) ++ (List.range u.length).map fun i => (ψ i, u.getD i 0)) (by
    rw [List.length_append, List.length_map, List.length_map, List.length_range, List.length_range]
    omega) fun q hq s hs => by
      rcases hψ q hq s hs with h | ⟨i, h1, h2⟩
      · rw [h]
        exact List.mem_append_left _ (List.mem_map.mpr ⟨s, List.mem_range.mpr hs, rfl⟩)
      · rw [h2]
        refine List.mem_append_right _ (List.mem_map.mpr ⟨i, List.mem_range.mpr (List.getElem?_eq_some_iff.mp h1).1, ?_⟩)
        rw [List.getD_eq_getElem?_getD, h1] <;> rfl
  refine ⟨PO, uok_of PO P G.few3, fun st' en' h => ?_⟩
  rw [G.eq_word hu hC] at h
  exact few_le (G.few_read hu u3) h
end
theorem plainLaw : PlainLaw where
  vok := fun m v hm hv => by
    obtain ⟨t, f, K⟩ := v_kind hv
    exact K.vok hm
  read := fun G hu u3 => G.fit_read hu u3
  open_ := fun G hO hC => G.fit_open hO hC
  word := fun G hu u3 hC => G.fit_word hu u3 hC
  sayR := fun {m vs cs u st en b} G hu u3 hC hb => by
    have hbm := (wordsTo_mem.mp hb).2
    have h1 := hC.lets hbm
    have h2 : run st 0 b ∈ en ↔ opL cs (rowsR cs.length u) [u.length] m b = true := by
      rw [← h1]
      exact ⟨fun h => decide_eq_true h, fun h => of_decide_eq_true h⟩
    rw [h2, G.op_rowsR hu, rdB_iff]
    constructor
    · rintro ⟨h3, h4⟩
      exact ⟨hb, h4.congr (fun s b hs hb h => (G.same hs hb).mp h) hu h3⟩
    · rintro ⟨_, h4⟩
      exact ⟨hbm, h4.congr (fun s b hs hb h => (G.same hs hb).mpr h) hu hbm⟩
  sayO := fun {m vs cs ov so eo st en b r} G hO hC hC2 hb hB => by
    have hbm := (wordsTo_mem.mp hb).2
    have h1 := hC2.lets hbm
    rw [h1, Bool.eq_iff_iff, G.op_toR hC.valid, isOp_iff hB]
    have key : ∀ u, (∀ s ∈ u, s < vs.length) → (run so 0 u ∈ eo ↔ run ov.1 0 u ∈ ov.2) := fun u hu => by
      have h := hC.lets hu
      have e : lang vs.length ov.1 ov.2 u = decide (run ov.1 0 u ∈ ov.2) := by
        show (u.all (fun l => decide (l < vs.length)) && decide (run ov.1 0 u ∈ ov.2)) = _
        rw [List.all_eq_true.mpr fun l hl => decide_eq_true (hu l hl), Bool.true_and]
      rw [e] at h
      exact decide_eq_decide.mp h
    constructor
    · rintro ⟨_, u, h2, h3, h4⟩
      exact ⟨u, h2, (key u h2).mp h3, h4.congr (fun s b hs hb h => (G.same hs hb).mp h) h2 hbm⟩
    · rintro ⟨u, h2, h3, h4⟩
      exact ⟨hbm, u, h2, (key u h2).mpr h3, h4.congr (fun s b hs hb h => (G.same hs hb).mpr h) h2 hbm⟩
  eqW := fun G hu _ hC => G.eq_word hu hC
  eqE := fun {m vs cs} G => by
    funext w
    have h := G.op_rowsR (u := []) (fun s hs => by cases hs) (w := w)
    have h : opL cs (rowsR cs.length []) [0] m w = true ↔ (∀ l ∈ w, l < m) ∧ Rdg (LvW cs) [] w := h
    rw [Bool.eq_iff_iff, h]
    show _ ↔ (w.all (fun l => decide (l < m)) && decide (w = [])) = true
    rw [Bool.and_eq_true, List.all_eq_true]
    constructor
    · rintro ⟨h1, h2⟩
      exact ⟨fun l hl => decide_eq_true (h1 l hl), decide_eq_true h2.inv0⟩
    · rintro ⟨h1, h2⟩
      refine ⟨fun l hl => of_decide_eq_true (h1 l hl), ?_⟩
      rw [of_decide_eq_true h2]
      exact .nil
end K81
end
section
set_option Elab.async false
set_option maxRecDepth 100000
set_option maxHeartbeats 0
set_option linter.all false
/-! The end: from the plain law to the statement. -/
namespace K81
open PySem PySem.Spec PyProof.Rows L2 NdefX LamX
theorem lawAt {w : World} {mg : Str → Option Value} {f : Addr} {h : Heap} {K : PySem.W.Frag} (PL : PlainLaw) (X : K.In h) (G : h.Ns mainGlobals mg) (hfa : mg ("law" : Str) = some (.ref f)) (c : He.SaysX fa fn [] tf ex w h K) :
    LawAtS PySem.Challenge.rw_widefills_k81_whole_readings_and_opened w K CX0 15 63 "_law_script" mg f h := by
  have cd : He.SaysD fa fn K := c.t.d
  have T : Txt K mg := txt_of X G cd c.more
  have T0 := T.g 44 rfl
  have e := hfa.symm.trans T0
  cases e
  obtain ⟨fd, F⟩ := T.d 46 rfl
  have F : FnP K "law" "law" sLaw (He.ga K "law") fd := F
  refine ⟨fd, [He.cT K ("words_machine", none), He.cT K ("opened_by", none)], spLaw K, fun p hp => ?_, fun p hp => ?_, fun p hp => ?_, fun s u => FunD.bindsA (ps := ["_law_script"]) F (fun _ _ _ _ _ _ us hl => match us, hl with | [_], _ => rfl) s [u] rfl, fun H a ns hl _ hT hS => ?_, fun base KB GB TB => ?_⟩
  · rcases List.mem_cons.mp hp with e | hp
    · rw [e]; exact c.empty ("words_machine", none) List.mem_cons_self
    · rw [List.mem_singleton.mp hp]; exact c.empty ("opened_by", none) (List.mem_cons_of_mem _ List.mem_cons_self)
  · rcases List.mem_cons.mp hp with e | hp
    · rw [e]; exact c.out ("words_machine", none) List.mem_cons_self
    · rw [List.mem_singleton.mp hp]; exact c.out ("opened_by", none) (List.mem_cons_of_mem _ List.mem_cons_self)
  · rcases List.mem_cons.mp hp with e | hp
    · rw [e]; exact PySem.W.codeHd_of_K X (c.hd ("words_machine", none) List.mem_cons_self)
    · rw [List.mem_singleton.mp hp]; exact PySem.W.codeHd_of_K X (c.hd ("opened_by", none) (List.mem_cons_of_mem _ List.mem_cons_self))
  · refine ⟨a, ns, rfl, hS, by omega, fun p hp => ?_, fun _ => rfl⟩
    rcases List.mem_cons.mp hp with e | hp
    · rw [e]; exact TabN.nil (hT _ List.mem_cons_self)
    · rw [List.mem_singleton.mp hp]; exact TabN.nil (hT _ (List.mem_cons_of_mem _ List.mem_cons_self))
  · obtain ⟨fd', F', G', _⟩ := f_law (P := PySem.Challenge.rw_widefills_k81_whole_readings_and_opened.prog) (w := w) (base := base) T ⟨TB _ List.mem_cons_self, TB _ (List.mem_cons_of_mem _ List.mem_cons_self)⟩ PL
    have ef : fd = fd' := by
      obtain ⟨_, _, _, _, _, _, _, _, _, _, _, l1, _⟩ := F.ex
      obtain ⟨_, _, _, _, _, _, _, _, _, _, _, l2, _⟩ := F'.ex
      rw [l1] at l2
      injection l2 with l2
      injection l2 with _ _ l2 _
      injection l2
    rw [ef]
    exact G'
end K81
open PySem PySem.W PySem.Calls PyProof.Rows
theorem K81.holds_of (PL : K81.PlainLaw) : PySem.Challenge.rw_widefills_k81_whole_readings_and_opened.Holds := by
  w_on; o_law
  refine HandSHeadRun.head_any (r := OpenLaw.row PySem.Challenge.rw_widefills_k81_whole_readings_and_opened) (q := view (OpenLaw.row PySem.Challenge.rw_widefills_k81_whole_readings_and_opened).prog [71]) (H := K81.hdK) (ob := K81.hdO) (M := 5200) (loose := K81.hdLoose) (d := HandSHeadRun.topDef (OpenLaw.row PySem.Challenge.rw_widefills_k81_whole_readings_and_opened).prog 71) (kwd := []) K81.hdOeq
    (by kernel_rfl) (fun s => by kernel_rfl) K81.hdRun (by kernel_rfl) (by kernel_rfl) (by kernel_rfl) (by rfl) (by first | assumption | decide +kernel) (by decide +kernel) ⟨rfl, rfl, rfl, rfl, rfl, by decide +kernel⟩ ?hw ?hc
  case hw => w_witness2
  case hc =>
    refine LamX.walk_ofTsE (l := PySem.Challenge.rw_widefills_k81_whole_readings_and_opened) (n := 63) (k := 15) (x := "_law_script") (CX := fun _ => L2.CX0) rfl (by decide) (by kernel_rfl) ⟨rfl, by decide, by decide⟩ ?F (fun _ _ _ _ _ z => z)
    intro w mg fa h Y G hmg0
    obtain ⟨K, KX, c⟩ := Y
    have hmg : mg ("law" : PySem.Str) = some (.ref fa) := by
      have e : (HandSHeadRun.topDef (OpenLaw.row PySem.Challenge.rw_widefills_k81_whole_readings_and_opened).prog 71).name = ("law" : PySem.Str) := by kernel_rfl
      rw [← e]
      exact hmg0
    exact ⟨K, KX, K81.lawAt PL KX G hmg c⟩
end
open PySem PySem.W PyProof.Rows
theorem PySem.Challenge.cw_widefills_k81_whole_readings_and_opened_holds : PySem.Challenge.rw_widefills_k81_whole_readings_and_opened.Holds := by
  exact K81.holds_of K81.plainLaw
